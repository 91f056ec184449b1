/- The walks, printed by a program from the translation and a specification. -/
import Derived.Test.YtgjdmnljnimamaaTiF
import Derived.Test.YtgjdmnljnimamaaTiLaw
import Derived.Test.YtgjdmnljnimamaaTiW10
namespace Go.Proofs.Ytgjdmnljnimamaa
open Go.Sx Go.RowKit
set_option maxHeartbeats 8000000 in
set_option maxRecDepth 100000 in
theorem tierMoves_ok (t : DTiers) (at_0 : Option Addr) (ct_0 : Nat) (at_1 : Option Addr) (ct_1 : Nat) (key : Int) : Fn0 Try.prog 8 [.agg #[.int .i64 t.near, .int .i64 t.far, .slice at_0 t.first.length ct_0, .slice at_1 t.rest.length ct_1], .int .i64 key] (fun w => Rd tInt w at_0 ct_0 t.first ∧ Rd tInt w at_1 ct_1 t.rest) (.bool true) := by
  refine fn0 (nt := 97) (F0 := [(0, .agg #[.int .i64 t.near, .int .i64 t.far, .slice at_0 t.first.length ct_0, .slice at_1 t.rest.length ct_1]), (1, .int .i64 key)]) Try.func8 rfl Try.ntmps8 rfl rfl (fun w0 hpre => ?_)
  obtain ⟨ht_0, ht_1⟩ := hpre
  have hlht_0 := ht_0.2.1
  have hlht_1 := ht_1.2.1
  refine c_seq ?_
  refine c_region ?_
  refine o_box (v := .agg #[.int .i64 t.near, .int .i64 t.far, .slice at_0 t.first.length ct_0, .slice at_1 t.rest.length ct_1]) rfl rfl (fun B1 => ?_)
  refine o_pure (p_assign (v := .bool false) rfl) rfl rfl rfl ?_
  refine o_nil ?_
  refine q_then ?_
  refine c_seq ?_
  refine c_region ?_
  refine o_pure (p_load_agg (i := 0) (vs := [.int .i64 t.near, .int .i64 t.far, .slice at_0 t.first.length ct_0, .slice at_1 t.rest.length ct_1]) rfl rfl sh43 rfl rfl) rfl rfl rfl ?_
  refine o_pure (p_move (v := .int .i64 key) rfl) rfl rfl rfl ?_
  refine o_callM rfl (taccess_ok t at_0 ct_0 at_1 ct_1 key) hf27 (fun w hw => ⟨(rd_base (i := 1) rfl ht_0) w hw, (rd_base (i := 1) rfl ht_1) w hw⟩) rfl (fun _ _ _ _ ha hA => ⟨SlR.agree ha hA.1, SlR.agree ha hA.2⟩) ?_
  rintro ⟨a4, c5, a6, c7⟩ S2
  refine o_know (fun w hw => (hw.at (i := 0) rfl).here.1.2.1) (fun hlr8 => ?_)
  refine o_know (fun w hw => (hw.at (i := 0) rfl).here.2.2.1) (fun hlr9 => ?_)
  refine o_pure (p_move (v := .tuple #[.agg #[.int .i64 (((Tier.access t key).1).near), .int .i64 (((Tier.access t key).1).far), .slice a4 (((Tier.access t key).1).first).length c5, .slice a6 (((Tier.access t key).1).rest).length c7], .int .i64 ((Tier.access t key).2.1), .int .i64 ((Tier.access t key).2.2), .int .i64 (Tier.accessErr t key)]) rfl) rfl rfl rfl ?_
  refine o_pure (p_extract (vs := [.agg #[.int .i64 (((Tier.access t key).1).near), .int .i64 (((Tier.access t key).1).far), .slice a4 (((Tier.access t key).1).first).length c5, .slice a6 (((Tier.access t key).1).rest).length c7], .int .i64 ((Tier.access t key).2.1), .int .i64 ((Tier.access t key).2.2), .int .i64 (Tier.accessErr t key)]) (v := .agg #[.int .i64 (((Tier.access t key).1).near), .int .i64 (((Tier.access t key).1).far), .slice a4 (((Tier.access t key).1).first).length c5, .slice a6 (((Tier.access t key).1).rest).length c7]) rfl rfl) rfl rfl rfl ?_
  refine o_pure (p_extract (vs := [.agg #[.int .i64 (((Tier.access t key).1).near), .int .i64 (((Tier.access t key).1).far), .slice a4 (((Tier.access t key).1).first).length c5, .slice a6 (((Tier.access t key).1).rest).length c7], .int .i64 ((Tier.access t key).2.1), .int .i64 ((Tier.access t key).2.2), .int .i64 (Tier.accessErr t key)]) (v := .int .i64 ((Tier.access t key).2.1)) rfl rfl) rfl rfl rfl ?_
  refine o_pure (p_extract (vs := [.agg #[.int .i64 (((Tier.access t key).1).near), .int .i64 (((Tier.access t key).1).far), .slice a4 (((Tier.access t key).1).first).length c5, .slice a6 (((Tier.access t key).1).rest).length c7], .int .i64 ((Tier.access t key).2.1), .int .i64 ((Tier.access t key).2.2), .int .i64 (Tier.accessErr t key)]) (v := .int .i64 ((Tier.access t key).2.2)) rfl rfl) rfl rfl rfl ?_
  refine o_pure (p_extract (vs := [.agg #[.int .i64 (((Tier.access t key).1).near), .int .i64 (((Tier.access t key).1).far), .slice a4 (((Tier.access t key).1).first).length c5, .slice a6 (((Tier.access t key).1).rest).length c7], .int .i64 ((Tier.access t key).2.1), .int .i64 ((Tier.access t key).2.2), .int .i64 (Tier.accessErr t key)]) (v := .int .i64 (Tier.accessErr t key)) rfl rfl) rfl rfl rfl ?_
  refine o_alloc ze43 rfl (fun B10 => ?_)
  refine o_storeN (i := 0) (vs := [.int .i64 (((Tier.access t key).1).near), .int .i64 (((Tier.access t key).1).far), .slice a4 (((Tier.access t key).1).first).length c5, .slice a6 (((Tier.access t key).1).rest).length c7]) (cs' := [.int .i64 (((Tier.access t key).1).near), .int .i64 (((Tier.access t key).1).far), .slice a4 (((Tier.access t key).1).first).length c5, .slice a6 (((Tier.access t key).1).rest).length c7]) rfl rfl rfl sz43 rfl rfl rfl rfl ?_
  refine o_pure (p_assign (v := .int .i64 ((Tier.access t key).2.1)) rfl) rfl rfl rfl ?_
  refine o_pure (p_assign (v := .int .i64 ((Tier.access t key).2.2)) rfl) rfl rfl rfl ?_
  refine o_pure (p_assign (v := .int .i64 (Tier.accessErr t key)) rfl) rfl rfl rfl ?_
  refine o_nil ?_
  refine q_then ?_
  refine c_seq ?_
  refine c_seq ?_
  refine c_region ?_
  refine o_call0 (v := .bool true) rfl (tierBegun_ok ) hf33 (fun _ _ => trivial) rfl ?_
  refine o_pure (p_not (b := true) rfl) rfl rfl rfl ?_
  refine o_nil ?_
  refine q_then ?_
  refine c_false rfl ?_
  refine c_skip ?_
  refine q_then ?_
  refine c_seq ?_
  refine c_seq ?_
  refine c_region ?_
  refine o_pure (p_move (v := .int .i64 (Tier.accessErr t key)) rfl) rfl rfl rfl ?_
  refine o_pure (p_ne (p := (Tier.accessErr t key)) (q := 0) rfl rfl) rfl rfl rfl ?_
  refine o_nil ?_
  refine q_then ?_
  refine c_cond (b := ((Tier.accessErr t key) != 0)) rfl (fun hc11 => ?_) (fun hc11 => ?_)
  · simp only [bne_iff_ne, ne_eq] at hc11
    refine c_seq ?_
    refine c_region ?_
    refine o_pure (p_move (v := .int .i64 ((Tier.access t key).2.1)) rfl) rfl rfl rfl ?_
    refine o_pure (p_eq (p := ((Tier.access t key).2.1)) (q := 0) rfl rfl) rfl rfl rfl ?_
    refine o_pure (p_move (v := .bool (((Tier.access t key).2.1) == 0)) rfl) rfl rfl rfl ?_
    refine o_and (p := 30) 3 (((Tier.access t key).2.2) == 0) ?_ ?_ ?_
    · intro hb12 hk
      simp only [beq_iff_eq] at hb12
      refine o_unguard 27 rfl rfl ?_
      refine o_pure (p_move (v := .int .i64 ((Tier.access t key).2.2)) rfl) rfl rfl rfl ?_
      refine o_unguard 27 rfl rfl ?_
      refine o_pure (p_eq (p := ((Tier.access t key).2.2)) (q := 0) rfl rfl) rfl rfl rfl ?_
      refine o_pure (p_pick_true (u := .bool (((Tier.access t key).2.2) == 0)) rfl rfl) rfl rfl rfl ?_
      exact o_sub (Sub.cons rfl (Sub.skip rfl (Sub.skip rfl (Sub.skip rfl (Sub.skip rfl (Sub.refl _)))))) hk
    · intro hb12 hk
      refine o_guard_no rfl 27 rfl rfl rfl rfl rfl ?_
      refine o_guard_no rfl 27 rfl rfl rfl rfl rfl ?_
      refine o_pure (p_pick_false (v := .bool false) rfl rfl) rfl rfl rfl ?_
      exact o_sub (Sub.cons rfl (Sub.skip rfl (Sub.skip rfl (Sub.skip rfl (Sub.skip rfl (Sub.refl _)))))) hk
    refine o_pure (p_assign (v := .bool ((((Tier.access t key).2.1) == 0) && (((Tier.access t key).2.2) == 0))) rfl) rfl rfl rfl ?_
    refine o_nil ?_
    refine q_then ?_
    refine c_ret ?_
    refine q_then_ret ?_
    have hr0 : (((((Tier.access t key).2.1) == 0) && (((Tier.access t key).2.2) == 0)) : Bool) = true := by
      first | rfl | (rw [Tier.acc_bad (by assumption)]; rfl)
    refine q_end0 (v := .bool ((((Tier.access t key).2.1) == 0) && (((Tier.access t key).2.2) == 0))) (rt1 rfl (r_tmp rfl)) (i := 3) rfl ?_
    exact (by have hcc := congrArg (fun (y0 : Bool) => (.bool y0 : Value)) hr0; exact hcc)
  · simp only [bne_eq_false_iff_eq] at hc11
    have hacc := hc11
    obtain ⟨q1, q2, q3, q4⟩ := Tier.moves_law hacc
    have hfl : 0 < (Tier.access t key).1.first.length := by obtain ⟨l2, q⟩ := q2; rw [q]; simp
    have hf0 : (Tier.access t key).1.first[0] = key := by obtain ⟨l2, q⟩ := q2; simp [q]
    refine c_skip ?_
    refine q_then ?_
    refine c_seq ?_
    refine c_seq ?_
    refine c_region ?_
    refine o_pure (p_load_agg (i := 0) (vs := [.int .i64 (((Tier.access t key).1).near), .int .i64 (((Tier.access t key).1).far), .slice a4 (((Tier.access t key).1).first).length c5, .slice a6 (((Tier.access t key).1).rest).length c7]) rfl rfl sh43 rfl rfl) rfl rfl rfl ?_
    refine o_call0 (v := .int .i64 (Tier.check ((Tier.access t key).1))) rfl (tcheck_ok ((Tier.access t key).1) a4 c5 a6 c7) hf34 (fun w hw => ⟨(rd_ent (i := 1) rfl (fun w h => h.1)) w hw, (rd_ent (i := 1) rfl (fun w h => h.2)) w hw⟩) rfl ?_
    refine o_pure (p_ne (p := (Tier.check ((Tier.access t key).1))) (q := 0) rfl rfl) rfl rfl rfl ?_
    refine o_pure (p_move (v := .bool ((Tier.check ((Tier.access t key).1)) != 0)) rfl) rfl rfl rfl ?_
    refine o_or (p := 39) 5 (((((Tier.access t key).1).first).length : Int) == 0) ?_ ?_ ?_
    · intro hb13 hk
      simp only [bne_eq_false_iff_eq] at hb13
      refine o_unguard 34 rfl rfl ?_
      refine o_pure (p_fieldAddr (B := B10) (j := 0) (j' := 2) rfl fo43_2 rfl) rfl rfl rfl ?_
      refine o_unguard 34 rfl rfl ?_
      refine o_pure (p_load (i := 0) (v := .slice a4 (((Tier.access t key).1).first).length c5) rfl rfl sh23 rfl) rfl rfl rfl ?_
      refine o_unguard 34 rfl rfl ?_
      refine o_pure (p_len_slice (len := (((Tier.access t key).1).first).length) rfl rfl Try.underlying23) rfl rfl rfl ?_
      refine o_unguard 34 rfl rfl ?_
      refine o_pure (p_eq (p := ((((Tier.access t key).1).first).length : Int)) (q := 0) rfl rfl) rfl rfl rfl ?_
      refine o_pure (p_pick_false (v := .bool (((((Tier.access t key).1).first).length : Int) == 0)) rfl rfl) rfl rfl rfl ?_
      exact o_sub (Sub.cons rfl (Sub.skip rfl (Sub.skip rfl (Sub.skip rfl (Sub.skip rfl (Sub.skip rfl (Sub.skip rfl (Sub.refl _)))))))) hk
    · intro hb13 hk
      refine o_guard_no rfl 34 rfl rfl rfl rfl rfl ?_
      refine o_guard_no rfl 34 rfl rfl rfl rfl rfl ?_
      refine o_guard_no rfl 34 rfl rfl rfl rfl rfl ?_
      refine o_guard_no rfl 34 rfl rfl rfl rfl rfl ?_
      refine o_pure (p_pick_true (u := .bool true) rfl rfl) rfl rfl rfl ?_
      exact o_sub (Sub.cons rfl (Sub.skip rfl (Sub.skip rfl (Sub.skip rfl (Sub.skip rfl (Sub.skip rfl (Sub.skip rfl (Sub.refl _)))))))) hk
    refine o_pure (p_move (v := .bool (((Tier.check ((Tier.access t key).1)) != 0) || (((((Tier.access t key).1).first).length : Int) == 0))) rfl) rfl rfl rfl ?_
    refine o_or (p := 47) 7 ((((Tier.access t key).1).first)[0] != key) ?_ ?_ ?_
    · intro hb14 hk
      simp only [Bool.or_eq_false_iff, bne_eq_false_iff_eq, beq_eq_false_iff_ne, ne_eq] at hb14
      refine o_unguard 40 rfl rfl ?_
      refine o_pure (p_fieldAddr (B := B10) (j := 0) (j' := 2) rfl fo43_2 rfl) rfl rfl rfl ?_
      refine o_unguard 40 rfl rfl ?_
      refine o_pure (p_load (i := 0) (v := .slice a4 (((Tier.access t key).1).first).length c5) rfl rfl sh23 rfl) rfl rfl rfl ?_
      refine o_unguard 40 rfl rfl ?_
      refine o_pure (p_indexAddr (L := ((Tier.access t key).1).first) (T := tInt) (i := 0) rfl rfl (rd_ent (i := 1) rfl (fun w h => h.1)) Try.underlying23 sz3 (by omega) (by omega)) rfl rfl rfl ?_
      refine o_unguard 40 rfl rfl ?_
      refine o_pure (p_loadE1 (i := 0) (T := tInt) (L := ((Tier.access t key).1).first) (v := .int .i64 ((((Tier.access t key).1).first)[0])) rfl (rd_ent (i := 1) rfl (fun w h => h.1)) (by first | assumption | omega) sh3 rfl) rfl rfl rfl ?_
      refine o_unguard 40 rfl rfl ?_
      refine o_pure (p_move (v := .int .i64 key) rfl) rfl rfl rfl ?_
      refine o_unguard 40 rfl rfl ?_
      refine o_pure (p_ne (p := (((Tier.access t key).1).first)[0]) (q := key) rfl rfl) rfl rfl rfl ?_
      refine o_pure (p_pick_false (v := .bool ((((Tier.access t key).1).first)[0] != key)) rfl rfl) rfl rfl rfl ?_
      exact o_sub (Sub.cons rfl (Sub.skip rfl (Sub.skip rfl (Sub.skip rfl (Sub.skip rfl (Sub.skip rfl (Sub.skip rfl (Sub.skip rfl (Sub.skip rfl (Sub.refl _)))))))))) hk
    · intro hb14 hk
      refine o_guard_no rfl 40 rfl rfl rfl rfl rfl ?_
      refine o_guard_no rfl 40 rfl rfl rfl rfl rfl ?_
      refine o_guard_no rfl 40 rfl rfl rfl rfl rfl ?_
      refine o_guard_no rfl 40 rfl rfl rfl rfl rfl ?_
      refine o_guard_no rfl 40 rfl rfl rfl rfl rfl ?_
      refine o_guard_no rfl 40 rfl rfl rfl rfl rfl ?_
      refine o_pure (p_pick_true (u := .bool true) rfl rfl) rfl rfl rfl ?_
      exact o_sub (Sub.cons rfl (Sub.skip rfl (Sub.skip rfl (Sub.skip rfl (Sub.skip rfl (Sub.skip rfl (Sub.skip rfl (Sub.skip rfl (Sub.skip rfl (Sub.refl _)))))))))) hk
    refine o_pure (p_move (v := .bool ((((Tier.check ((Tier.access t key).1)) != 0) || (((((Tier.access t key).1).first).length : Int) == 0)) || ((((Tier.access t key).1).first)[0] != key))) rfl) rfl rfl rfl ?_
    refine o_or (p := 55) 7 (decide (0 < ((Tier.access t key).2.1)) && (((Tier.access t key).2.2) != (-1))) ?_ ?_ ?_
    · intro hb15 hk
      simp only [Bool.or_eq_false_iff, bne_eq_false_iff_eq, beq_eq_false_iff_ne, ne_eq] at hb15
      refine o_unguard 48 rfl rfl ?_
      refine o_pure (p_move (v := .int .i64 ((Tier.access t key).2.1)) rfl) rfl rfl rfl ?_
      refine o_unguard 48 rfl rfl ?_
      refine o_pure (p_gt (p := ((Tier.access t key).2.1)) (q := 0) rfl rfl) rfl rfl rfl ?_
      refine o_unguard 48 rfl rfl ?_
      refine o_pure (p_move (v := .bool (decide (0 < ((Tier.access t key).2.1)))) rfl) rfl rfl rfl ?_
      refine o_and (p := 54) 3 (((Tier.access t key).2.2) != (-1)) ?_ ?_ ?_
      · intro hb16 hk
        simp only [decide_eq_true_eq] at hb16
        refine o_unguard 51 rfl rfl ?_
        refine o_pure (p_move (v := .int .i64 ((Tier.access t key).2.2)) rfl) rfl rfl rfl ?_
        refine o_unguard 51 rfl rfl ?_
        refine o_pure (p_ne (p := ((Tier.access t key).2.2)) (q := (-1)) rfl rfl) rfl rfl rfl ?_
        refine o_unguard 48 rfl rfl ?_
        refine o_pure (p_pick_true (u := .bool (((Tier.access t key).2.2) != (-1))) rfl rfl) rfl rfl rfl ?_
        exact o_sub (Sub.cons rfl (Sub.skip rfl (Sub.skip rfl (Sub.skip rfl (Sub.skip rfl (Sub.refl _)))))) hk
      · intro hb16 hk
        refine o_guard_no rfl 51 rfl rfl rfl rfl rfl ?_
        refine o_guard_no rfl 51 rfl rfl rfl rfl rfl ?_
        refine o_unguard 48 rfl rfl ?_
        refine o_pure (p_pick_false (v := .bool false) rfl rfl) rfl rfl rfl ?_
        exact o_sub (Sub.cons rfl (Sub.skip rfl (Sub.skip rfl (Sub.skip rfl (Sub.skip rfl (Sub.refl _)))))) hk
      refine o_pure (p_pick_false (v := .bool (decide (0 < ((Tier.access t key).2.1)) && (((Tier.access t key).2.2) != (-1)))) rfl rfl) rfl rfl rfl ?_
      exact o_sub (Sub.cons rfl (Sub.skip rfl (Sub.skip rfl (Sub.skip rfl (Sub.skip rfl (Sub.skip rfl (Sub.refl _))))))) hk
    · intro hb15 hk
      refine o_guard_no rfl 48 rfl rfl rfl rfl rfl ?_
      refine o_guard_no rfl 48 rfl rfl rfl rfl rfl ?_
      refine o_guard_no rfl 48 rfl rfl rfl rfl rfl ?_
      refine o_guard_no rfl 51 rfl rfl rfl rfl rfl ?_
      refine o_guard_no rfl 51 rfl rfl rfl rfl rfl ?_
      refine o_guard_no rfl 48 rfl rfl rfl rfl rfl ?_
      refine o_pure (p_pick_true (u := .bool true) rfl rfl) rfl rfl rfl ?_
      exact o_sub (Sub.cons rfl (Sub.skip rfl (Sub.skip rfl (Sub.skip rfl (Sub.skip rfl (Sub.skip rfl (Sub.skip rfl (Sub.skip rfl (Sub.skip rfl (Sub.refl _)))))))))) hk
    refine o_nil ?_
    refine q_then ?_
    refine c_cond (b := (((((Tier.check ((Tier.access t key).1)) != 0) || (((((Tier.access t key).1).first).length : Int) == 0)) || ((((Tier.access t key).1).first)[0] != key)) || (decide (0 < ((Tier.access t key).2.1)) && (((Tier.access t key).2.2) != (-1))))) rfl (fun hc17 => ?_) (fun hc17 => ?_)
    · simp only [Bool.or_eq_true, bne_iff_ne, ne_eq, beq_iff_eq, Bool.and_eq_true, decide_eq_true_eq] at hc17
      exfalso; rcases hc17 with ((h9 | h9) | h9) | h9 <;> first | omega | exact h9 q1 | exact h9 hf0 | (have := q3 (by omega); omega)
    · simp only [Bool.or_eq_false_iff, bne_eq_false_iff_eq, beq_eq_false_iff_ne, ne_eq, Bool.and_eq_false_iff, decide_eq_false_iff_not, Int.not_lt] at hc17
      refine c_skip ?_
      refine q_then ?_
      refine c_seq ?_
      refine c_seq ?_
      refine c_region ?_
      refine o_pure (p_fieldAddr (B := B1) (j := 0) (j' := 2) rfl fo43_2 rfl) rfl rfl rfl ?_
      refine o_pure (p_load (i := 2) (v := .slice at_0 t.first.length ct_0) rfl rfl sh23 rfl) rfl rfl rfl ?_
      refine o_pure (p_fieldAddr (B := B1) (j := 0) (j' := 3) rfl fo43_3 rfl) rfl rfl rfl ?_
      refine o_pure (p_load (i := 2) (v := .slice at_1 t.rest.length ct_1) rfl rfl sh23 rfl) rfl rfl rfl ?_
      refine o_buildSlice (m := 2) (T := tHdr) (L := [(⟨at_0, ct_0, t.first⟩ : Hdr), (⟨at_1, ct_1, t.rest⟩ : Hdr)]) (vs := [.slice at_0 t.first.length ct_0, .slice at_1 t.rest.length ct_1]) rfl rfl rfl rfl Try.underlying57 sz23 (by decide) ze23 rfl (by decide) rfl (fun S18 a19 => ?_)
      refine o_pure (p_len_slice (len := ([(⟨at_0, ct_0, t.first⟩ : Hdr), (⟨at_1, ct_1, t.rest⟩ : Hdr)]).length) rfl rfl Try.underlying57) rfl rfl rfl ?_
      refine o_pure (p_move (v := .int .i64 0) rfl) rfl rfl rfl ?_
      refine o_nil ?_
      refine q_then ?_
      refine c_block ?_
      refine c_loop (St := Nat)
        (fun k => [(5, .pointer (some ⟨B10, 0, none⟩)), (7, .int .i64 ((Tier.access t key).2.2)), (60, .slice a19 ([(⟨at_0, ct_0, t.first⟩ : Hdr), (⟨at_1, ct_1, t.rest⟩ : Hdr)]).length ([(⟨at_0, ct_0, t.first⟩ : Hdr), (⟨at_1, ct_1, t.rest⟩ : Hdr)].length)), (61, .int .i64 (([(⟨at_0, ct_0, t.first⟩ : Hdr), (⟨at_1, ct_1, t.rest⟩ : Hdr)]).length : Int)), (62, .int .i64 (k : Int))])
        (fun k => [own tHdr S18 a19 ([(⟨at_0, ct_0, t.first⟩ : Hdr), (⟨at_1, ct_1, t.rest⟩ : Hdr)].length) ([(⟨at_0, ct_0, t.first⟩ : Hdr), (⟨at_1, ct_1, t.rest⟩ : Hdr)]), box B10 [.int .i64 (((Tier.access t key).1).near), .int .i64 (((Tier.access t key).1).far), .slice a4 (((Tier.access t key).1).first).length c5, .slice a6 (((Tier.access t key).1).rest).length c7] 43, ⟨S2, fun w => SlR tInt S2 w a4 c5 (((Tier.access t key).1).first) ∧ SlR tInt S2 w a6 c7 (((Tier.access t key).1).rest)⟩, box B1 [.int .i64 t.near, .int .i64 t.far, .slice at_0 t.first.length ct_0, .slice at_1 t.rest.length ct_1] 43, base w0])
        (fun k => k ≤ 2)
        (fun k => 2 - k)
        0 ?_ (Sub.cons rfl (Sub.cons rfl (Sub.cons rfl (Sub.cons rfl (Sub.cons rfl (Sub.nil _)))))) (fun _ hw => hw) ?_
      · exact Nat.zero_le _
      rintro k hI K hK21
      have h2l : ([(⟨at_0, ct_0, t.first⟩ : Hdr), (⟨at_1, ct_1, t.rest⟩ : Hdr)]).length = 2 := rfl
      show SC _ _ Try.prog 97 w0 _ _ [(5, .pointer (some ⟨B10, 0, none⟩)), (7, .int .i64 ((Tier.access t key).2.2)), (60, .slice a19 ([(⟨at_0, ct_0, t.first⟩ : Hdr), (⟨at_1, ct_1, t.rest⟩ : Hdr)]).length ([(⟨at_0, ct_0, t.first⟩ : Hdr), (⟨at_1, ct_1, t.rest⟩ : Hdr)].length)), (61, .int .i64 (([(⟨at_0, ct_0, t.first⟩ : Hdr), (⟨at_1, ct_1, t.rest⟩ : Hdr)]).length : Int)), (62, .int .i64 (k : Int))] [own tHdr S18 a19 ([(⟨at_0, ct_0, t.first⟩ : Hdr), (⟨at_1, ct_1, t.rest⟩ : Hdr)].length) ([(⟨at_0, ct_0, t.first⟩ : Hdr), (⟨at_1, ct_1, t.rest⟩ : Hdr)]), box B10 [.int .i64 (((Tier.access t key).1).near), .int .i64 (((Tier.access t key).1).far), .slice a4 (((Tier.access t key).1).first).length c5, .slice a6 (((Tier.access t key).1).rest).length c7] 43, ⟨S2, fun w => SlR tInt S2 w a4 c5 (((Tier.access t key).1).first) ∧ SlR tInt S2 w a6 c7 (((Tier.access t key).1).rest)⟩, box B1 [.int .i64 t.near, .int .i64 t.far, .slice at_0 t.first.length ct_0, .slice at_1 t.rest.length ct_1] 43, base w0]
      refine c_seq ?_
      refine c_region ?_
      refine o_pure (p_lt (p := (k : Int)) (q := (([(⟨at_0, ct_0, t.first⟩ : Hdr), (⟨at_1, ct_1, t.rest⟩ : Hdr)]).length : Int)) rfl rfl) rfl rfl rfl ?_
      refine o_nil ?_
      refine q_then ?_
      refine c_seq ?_
      refine c_cond (b := decide ((k : Int) < (([(⟨at_0, ct_0, t.first⟩ : Hdr), (⟨at_1, ct_1, t.rest⟩ : Hdr)]).length : Int))) rfl (fun hc22 => ?_) (fun hc22 => ?_)
      · simp only [decide_eq_true_eq] at hc22
        refine c_skip ?_
        refine q_then ?_
        refine c_seq ?_
        refine c_block ?_
        refine c_seq ?_
        refine c_region ?_
        refine o_pure (p_indexAddr (L := [(⟨at_0, ct_0, t.first⟩ : Hdr), (⟨at_1, ct_1, t.rest⟩ : Hdr)]) (T := tHdr) (i := (k : Int)) rfl rfl (rd_own (i := 0) rfl) Try.underlying57 sz23 (by omega) (by omega)) rfl rfl rfl ?_
        refine o_pure (p_loadE1 (i := k) (T := tHdr) (L := [(⟨at_0, ct_0, t.first⟩ : Hdr), (⟨at_1, ct_1, t.rest⟩ : Hdr)]) (v := .slice ((([(⟨at_0, ct_0, t.first⟩ : Hdr), (⟨at_1, ct_1, t.rest⟩ : Hdr)])[k]).a) ((([(⟨at_0, ct_0, t.first⟩ : Hdr), (⟨at_1, ct_1, t.rest⟩ : Hdr)])[k]).L).length ((([(⟨at_0, ct_0, t.first⟩ : Hdr), (⟨at_1, ct_1, t.rest⟩ : Hdr)])[k]).cap)) rfl (rd_own (i := 0) rfl) (by first | assumption | omega) sh23 rfl) rfl rfl rfl ?_
        refine o_pure (p_assign (v := .slice ((([(⟨at_0, ct_0, t.first⟩ : Hdr), (⟨at_1, ct_1, t.rest⟩ : Hdr)])[k]).a) ((([(⟨at_0, ct_0, t.first⟩ : Hdr), (⟨at_1, ct_1, t.rest⟩ : Hdr)])[k]).L).length ((([(⟨at_0, ct_0, t.first⟩ : Hdr), (⟨at_1, ct_1, t.rest⟩ : Hdr)])[k]).cap)) rfl) rfl rfl rfl ?_
        refine o_nil ?_
        refine q_then ?_
        refine c_seq ?_
        refine c_region ?_
        refine o_pure (p_assign (v := .int .i64 0) rfl) rfl rfl rfl ?_
        refine o_nil ?_
        refine q_then ?_
        refine c_block ?_
        refine c_loop (St := Nat)
          (fun i => [(5, .pointer (some ⟨B10, 0, none⟩)), (7, .int .i64 ((Tier.access t key).2.2)), (10, .slice ((([(⟨at_0, ct_0, t.first⟩ : Hdr), (⟨at_1, ct_1, t.rest⟩ : Hdr)])[k]).a) ((([(⟨at_0, ct_0, t.first⟩ : Hdr), (⟨at_1, ct_1, t.rest⟩ : Hdr)])[k]).L).length ((([(⟨at_0, ct_0, t.first⟩ : Hdr), (⟨at_1, ct_1, t.rest⟩ : Hdr)])[k]).cap)), (11, .int .i64 (i : Int)), (60, .slice a19 ([(⟨at_0, ct_0, t.first⟩ : Hdr), (⟨at_1, ct_1, t.rest⟩ : Hdr)]).length ([(⟨at_0, ct_0, t.first⟩ : Hdr), (⟨at_1, ct_1, t.rest⟩ : Hdr)].length)), (61, .int .i64 (([(⟨at_0, ct_0, t.first⟩ : Hdr), (⟨at_1, ct_1, t.rest⟩ : Hdr)]).length : Int)), (62, .int .i64 (k : Int))])
          (fun i => [own tHdr S18 a19 ([(⟨at_0, ct_0, t.first⟩ : Hdr), (⟨at_1, ct_1, t.rest⟩ : Hdr)].length) ([(⟨at_0, ct_0, t.first⟩ : Hdr), (⟨at_1, ct_1, t.rest⟩ : Hdr)]), box B10 [.int .i64 (((Tier.access t key).1).near), .int .i64 (((Tier.access t key).1).far), .slice a4 (((Tier.access t key).1).first).length c5, .slice a6 (((Tier.access t key).1).rest).length c7] 43, ⟨S2, fun w => SlR tInt S2 w a4 c5 (((Tier.access t key).1).first) ∧ SlR tInt S2 w a6 c7 (((Tier.access t key).1).rest)⟩, box B1 [.int .i64 t.near, .int .i64 t.far, .slice at_0 t.first.length ct_0, .slice at_1 t.rest.length ct_1] 43, base w0])
          (fun i => i ≤ ([(⟨at_0, ct_0, t.first⟩ : Hdr), (⟨at_1, ct_1, t.rest⟩ : Hdr)][k]).L.length)
          (fun i => ([(⟨at_0, ct_0, t.first⟩ : Hdr), (⟨at_1, ct_1, t.rest⟩ : Hdr)][k]).L.length - i)
          0 ?_ (Sub.cons rfl (Sub.cons rfl (Sub.cons rfl (Sub.cons rfl (Sub.cons rfl (Sub.cons rfl (Sub.cons rfl (Sub.nil _)))))))) (fun _ hw => hw) ?_
        · exact Nat.zero_le _
        rintro i hI K hK23
        have hll : ([(⟨at_0, ct_0, t.first⟩ : Hdr), (⟨at_1, ct_1, t.rest⟩ : Hdr)][k]).L.length ≤ 140737488355328 := by rcases mem_rows2 (h1 := (⟨at_0, ct_0, t.first⟩ : Hdr)) (h2 := (⟨at_1, ct_1, t.rest⟩ : Hdr)) (k := k) (by omega) with e | e <;> rw [e] <;> first | exact hlht_0 | exact hlht_1
        show SC _ _ Try.prog 97 w0 _ _ [(5, .pointer (some ⟨B10, 0, none⟩)), (7, .int .i64 ((Tier.access t key).2.2)), (10, .slice ((([(⟨at_0, ct_0, t.first⟩ : Hdr), (⟨at_1, ct_1, t.rest⟩ : Hdr)])[k]).a) ((([(⟨at_0, ct_0, t.first⟩ : Hdr), (⟨at_1, ct_1, t.rest⟩ : Hdr)])[k]).L).length ((([(⟨at_0, ct_0, t.first⟩ : Hdr), (⟨at_1, ct_1, t.rest⟩ : Hdr)])[k]).cap)), (11, .int .i64 (i : Int)), (60, .slice a19 ([(⟨at_0, ct_0, t.first⟩ : Hdr), (⟨at_1, ct_1, t.rest⟩ : Hdr)]).length ([(⟨at_0, ct_0, t.first⟩ : Hdr), (⟨at_1, ct_1, t.rest⟩ : Hdr)].length)), (61, .int .i64 (([(⟨at_0, ct_0, t.first⟩ : Hdr), (⟨at_1, ct_1, t.rest⟩ : Hdr)]).length : Int)), (62, .int .i64 (k : Int))] [own tHdr S18 a19 ([(⟨at_0, ct_0, t.first⟩ : Hdr), (⟨at_1, ct_1, t.rest⟩ : Hdr)].length) ([(⟨at_0, ct_0, t.first⟩ : Hdr), (⟨at_1, ct_1, t.rest⟩ : Hdr)]), box B10 [.int .i64 (((Tier.access t key).1).near), .int .i64 (((Tier.access t key).1).far), .slice a4 (((Tier.access t key).1).first).length c5, .slice a6 (((Tier.access t key).1).rest).length c7] 43, ⟨S2, fun w => SlR tInt S2 w a4 c5 (((Tier.access t key).1).first) ∧ SlR tInt S2 w a6 c7 (((Tier.access t key).1).rest)⟩, box B1 [.int .i64 t.near, .int .i64 t.far, .slice at_0 t.first.length ct_0, .slice at_1 t.rest.length ct_1] 43, base w0]
        refine c_seq ?_
        refine c_seq ?_
        refine c_region ?_
        refine o_pure (p_move (v := .int .i64 (i : Int)) rfl) rfl rfl rfl ?_
        refine o_pure (p_move (v := .slice ((([(⟨at_0, ct_0, t.first⟩ : Hdr), (⟨at_1, ct_1, t.rest⟩ : Hdr)])[k]).a) ((([(⟨at_0, ct_0, t.first⟩ : Hdr), (⟨at_1, ct_1, t.rest⟩ : Hdr)])[k]).L).length ((([(⟨at_0, ct_0, t.first⟩ : Hdr), (⟨at_1, ct_1, t.rest⟩ : Hdr)])[k]).cap)) rfl) rfl rfl rfl ?_
        refine o_pure (p_len_slice (len := ((([(⟨at_0, ct_0, t.first⟩ : Hdr), (⟨at_1, ct_1, t.rest⟩ : Hdr)])[k]).L).length) rfl rfl Try.underlying23) rfl rfl rfl ?_
        refine o_pure (p_lt (p := (i : Int)) (q := (((([(⟨at_0, ct_0, t.first⟩ : Hdr), (⟨at_1, ct_1, t.rest⟩ : Hdr)])[k]).L).length : Int)) rfl rfl) rfl rfl rfl ?_
        refine o_nil ?_
        refine q_then ?_
        refine c_cond (b := decide ((i : Int) < (((([(⟨at_0, ct_0, t.first⟩ : Hdr), (⟨at_1, ct_1, t.rest⟩ : Hdr)])[k]).L).length : Int))) rfl (fun hc24 => ?_) (fun hc24 => ?_)
        · simp only [decide_eq_true_eq] at hc24
          refine c_skip ?_
          refine q_then ?_
          refine c_seq ?_
          refine c_block ?_
          refine c_seq ?_
          refine c_draw hmix (by kernel_rfl) ?_
          refine w_pure (p_fieldAddr (B := B10) (j := 0) (j' := 2) rfl fo43_2 rfl) rfl rfl rfl ?_
          refine w_pure (p_load (i := 1) (v := .slice a4 (((Tier.access t key).1).first).length c5) rfl rfl sh23 rfl) rfl rfl rfl ?_
          refine w_pure (p_move (v := .slice ((([(⟨at_0, ct_0, t.first⟩ : Hdr), (⟨at_1, ct_1, t.rest⟩ : Hdr)])[k]).a) ((([(⟨at_0, ct_0, t.first⟩ : Hdr), (⟨at_1, ct_1, t.rest⟩ : Hdr)])[k]).L).length ((([(⟨at_0, ct_0, t.first⟩ : Hdr), (⟨at_1, ct_1, t.rest⟩ : Hdr)])[k]).cap)) rfl) rfl rfl rfl ?_
          refine w_pure (p_move (v := .int .i64 (i : Int)) rfl) rfl rfl rfl ?_
          refine w_pure (p_indexAddr (L := (([(⟨at_0, ct_0, t.first⟩ : Hdr), (⟨at_1, ct_1, t.rest⟩ : Hdr)])[k]).L) (T := tInt) (i := (i : Int)) rfl rfl (rd_rows2 (h1 := (⟨at_0, ct_0, t.first⟩ : Hdr)) (h2 := (⟨at_1, ct_1, t.rest⟩ : Hdr)) (rd_base (i := 4) rfl ht_0) (rd_base (i := 4) rfl ht_1) (k := k) (by first | assumption | omega | (simp; omega))) Try.underlying23 sz3 (by omega) (by omega)) rfl rfl rfl ?_
          refine w_pure (p_loadE1 (i := i) (T := tInt) (L := (([(⟨at_0, ct_0, t.first⟩ : Hdr), (⟨at_1, ct_1, t.rest⟩ : Hdr)])[k]).L) (v := .int .i64 (((([(⟨at_0, ct_0, t.first⟩ : Hdr), (⟨at_1, ct_1, t.rest⟩ : Hdr)])[k]).L)[i])) rfl (rd_rows2 (h1 := (⟨at_0, ct_0, t.first⟩ : Hdr)) (h2 := (⟨at_1, ct_1, t.rest⟩ : Hdr)) (rd_base (i := 4) rfl ht_0) (rd_base (i := 4) rfl ht_1) (k := k) (by first | assumption | omega | (simp; omega))) (by first | assumption | omega) sh3 rfl) rfl rfl rfl ?_
          refine w_call0 (v := .bool (Ref.hasInt (((Tier.access t key).1).first) (((([(⟨at_0, ct_0, t.first⟩ : Hdr), (⟨at_1, ct_1, t.rest⟩ : Hdr)])[k]).L)[i]))) rfl (hasInt_ok (((Tier.access t key).1).first) a4 c5 (((([(⟨at_0, ct_0, t.first⟩ : Hdr), (⟨at_1, ct_1, t.rest⟩ : Hdr)])[k]).L)[i])) hf36 (fun w hw => (rd_ent (i := 2) rfl (fun w h => h.1)) w hw) rfl ?_
          refine w_pure (p_move (v := .bool (Ref.hasInt (((Tier.access t key).1).first) (((([(⟨at_0, ct_0, t.first⟩ : Hdr), (⟨at_1, ct_1, t.rest⟩ : Hdr)])[k]).L)[i]))) rfl) rfl rfl rfl ?_
          refine w_or (p := 87) 8 (Ref.hasInt (((Tier.access t key).1).rest) (((([(⟨at_0, ct_0, t.first⟩ : Hdr), (⟨at_1, ct_1, t.rest⟩ : Hdr)])[k]).L)[i])) ?_ ?_ ?_
          · intro hb25 hk
            skip
            refine w_unguard 79 rfl rfl ?_
            refine w_pure (p_fieldAddr (B := B10) (j := 0) (j' := 3) rfl fo43_3 rfl) rfl rfl rfl ?_
            refine w_unguard 79 rfl rfl ?_
            refine w_pure (p_load (i := 1) (v := .slice a6 (((Tier.access t key).1).rest).length c7) rfl rfl sh23 rfl) rfl rfl rfl ?_
            refine w_unguard 79 rfl rfl ?_
            refine w_pure (p_move (v := .slice ((([(⟨at_0, ct_0, t.first⟩ : Hdr), (⟨at_1, ct_1, t.rest⟩ : Hdr)])[k]).a) ((([(⟨at_0, ct_0, t.first⟩ : Hdr), (⟨at_1, ct_1, t.rest⟩ : Hdr)])[k]).L).length ((([(⟨at_0, ct_0, t.first⟩ : Hdr), (⟨at_1, ct_1, t.rest⟩ : Hdr)])[k]).cap)) rfl) rfl rfl rfl ?_
            refine w_unguard 79 rfl rfl ?_
            refine w_pure (p_move (v := .int .i64 (i : Int)) rfl) rfl rfl rfl ?_
            refine w_unguard 79 rfl rfl ?_
            refine w_pure (p_indexAddr (L := (([(⟨at_0, ct_0, t.first⟩ : Hdr), (⟨at_1, ct_1, t.rest⟩ : Hdr)])[k]).L) (T := tInt) (i := (i : Int)) rfl rfl (rd_rows2 (h1 := (⟨at_0, ct_0, t.first⟩ : Hdr)) (h2 := (⟨at_1, ct_1, t.rest⟩ : Hdr)) (rd_base (i := 4) rfl ht_0) (rd_base (i := 4) rfl ht_1) (k := k) (by first | assumption | omega | (simp; omega))) Try.underlying23 sz3 (by omega) (by omega)) rfl rfl rfl ?_
            refine w_unguard 79 rfl rfl ?_
            refine w_pure (p_loadE1 (i := i) (T := tInt) (L := (([(⟨at_0, ct_0, t.first⟩ : Hdr), (⟨at_1, ct_1, t.rest⟩ : Hdr)])[k]).L) (v := .int .i64 (((([(⟨at_0, ct_0, t.first⟩ : Hdr), (⟨at_1, ct_1, t.rest⟩ : Hdr)])[k]).L)[i])) rfl (rd_rows2 (h1 := (⟨at_0, ct_0, t.first⟩ : Hdr)) (h2 := (⟨at_1, ct_1, t.rest⟩ : Hdr)) (rd_base (i := 4) rfl ht_0) (rd_base (i := 4) rfl ht_1) (k := k) (by first | assumption | omega | (simp; omega))) (by first | assumption | omega) sh3 rfl) rfl rfl rfl ?_
            refine w_unguard 79 rfl rfl ?_
            refine w_call0 (v := .bool (Ref.hasInt (((Tier.access t key).1).rest) (((([(⟨at_0, ct_0, t.first⟩ : Hdr), (⟨at_1, ct_1, t.rest⟩ : Hdr)])[k]).L)[i]))) rfl (hasInt_ok (((Tier.access t key).1).rest) a6 c7 (((([(⟨at_0, ct_0, t.first⟩ : Hdr), (⟨at_1, ct_1, t.rest⟩ : Hdr)])[k]).L)[i])) hf36 (fun w hw => (rd_ent (i := 2) rfl (fun w h => h.2)) w hw) rfl ?_
            refine w_pure (p_pick_false (v := .bool (Ref.hasInt (((Tier.access t key).1).rest) (((([(⟨at_0, ct_0, t.first⟩ : Hdr), (⟨at_1, ct_1, t.rest⟩ : Hdr)])[k]).L)[i]))) rfl rfl) rfl rfl rfl ?_
            exact w_sub (Sub.cons rfl (Sub.skip rfl (Sub.skip rfl (Sub.skip rfl (Sub.skip rfl (Sub.skip rfl (Sub.skip rfl (Sub.skip rfl (Sub.skip rfl (Sub.skip rfl (Sub.refl _))))))))))) hk
          · intro hb25 hk
            refine w_guard_no rfl 79 rfl rfl rfl rfl rfl ?_
            refine w_guard_no rfl 79 rfl rfl rfl rfl rfl ?_
            refine w_guard_no rfl 79 rfl rfl rfl rfl rfl ?_
            refine w_guard_no rfl 79 rfl rfl rfl rfl rfl ?_
            refine w_guard_no rfl 79 rfl rfl rfl rfl rfl ?_
            refine w_guard_no rfl 79 rfl rfl rfl rfl rfl ?_
            refine w_guard_no rfl 79 rfl rfl rfl rfl rfl ?_
            refine w_pure (p_pick_true (u := .bool true) rfl rfl) rfl rfl rfl ?_
            exact w_sub (Sub.cons rfl (Sub.skip rfl (Sub.skip rfl (Sub.skip rfl (Sub.skip rfl (Sub.skip rfl (Sub.skip rfl (Sub.skip rfl (Sub.skip rfl (Sub.skip rfl (Sub.refl _))))))))))) hk
          refine w_pure (p_assign (v := .bool ((Ref.hasInt (((Tier.access t key).1).first) (((([(⟨at_0, ct_0, t.first⟩ : Hdr), (⟨at_1, ct_1, t.rest⟩ : Hdr)])[k]).L)[i])) || (Ref.hasInt (((Tier.access t key).1).rest) (((([(⟨at_0, ct_0, t.first⟩ : Hdr), (⟨at_1, ct_1, t.rest⟩ : Hdr)])[k]).L)[i])))) rfl) rfl rfl rfl ?_
          refine w_nil ?_
          refine q_then ?_
          refine c_seq ?_
          refine c_region ?_
          refine o_pure (p_move (v := .bool ((Ref.hasInt (((Tier.access t key).1).first) (((([(⟨at_0, ct_0, t.first⟩ : Hdr), (⟨at_1, ct_1, t.rest⟩ : Hdr)])[k]).L)[i])) || (Ref.hasInt (((Tier.access t key).1).rest) (((([(⟨at_0, ct_0, t.first⟩ : Hdr), (⟨at_1, ct_1, t.rest⟩ : Hdr)])[k]).L)[i])))) rfl) rfl rfl rfl ?_
          refine o_pure (p_move (v := .slice ((([(⟨at_0, ct_0, t.first⟩ : Hdr), (⟨at_1, ct_1, t.rest⟩ : Hdr)])[k]).a) ((([(⟨at_0, ct_0, t.first⟩ : Hdr), (⟨at_1, ct_1, t.rest⟩ : Hdr)])[k]).L).length ((([(⟨at_0, ct_0, t.first⟩ : Hdr), (⟨at_1, ct_1, t.rest⟩ : Hdr)])[k]).cap)) rfl) rfl rfl rfl ?_
          refine o_pure (p_move (v := .int .i64 (i : Int)) rfl) rfl rfl rfl ?_
          refine o_pure (p_indexAddr (L := (([(⟨at_0, ct_0, t.first⟩ : Hdr), (⟨at_1, ct_1, t.rest⟩ : Hdr)])[k]).L) (T := tInt) (i := (i : Int)) rfl rfl (rd_rows2 (h1 := (⟨at_0, ct_0, t.first⟩ : Hdr)) (h2 := (⟨at_1, ct_1, t.rest⟩ : Hdr)) (rd_base (i := 4) rfl ht_0) (rd_base (i := 4) rfl ht_1) (k := k) (by first | assumption | omega | (simp; omega))) Try.underlying23 sz3 (by omega) (by omega)) rfl rfl rfl ?_
          refine o_pure (p_loadE1 (i := i) (T := tInt) (L := (([(⟨at_0, ct_0, t.first⟩ : Hdr), (⟨at_1, ct_1, t.rest⟩ : Hdr)])[k]).L) (v := .int .i64 (((([(⟨at_0, ct_0, t.first⟩ : Hdr), (⟨at_1, ct_1, t.rest⟩ : Hdr)])[k]).L)[i])) rfl (rd_rows2 (h1 := (⟨at_0, ct_0, t.first⟩ : Hdr)) (h2 := (⟨at_1, ct_1, t.rest⟩ : Hdr)) (rd_base (i := 4) rfl ht_0) (rd_base (i := 4) rfl ht_1) (k := k) (by first | assumption | omega | (simp; omega))) (by first | assumption | omega) sh3 rfl) rfl rfl rfl ?_
          refine o_pure (p_move (v := .int .i64 ((Tier.access t key).2.2)) rfl) rfl rfl rfl ?_
          refine o_pure (p_eq (p := ((([(⟨at_0, ct_0, t.first⟩ : Hdr), (⟨at_1, ct_1, t.rest⟩ : Hdr)])[k]).L)[i]) (q := ((Tier.access t key).2.2)) rfl rfl) rfl rfl rfl ?_
          refine o_pure (p_eqBool (b := ((Ref.hasInt (((Tier.access t key).1).first) (((([(⟨at_0, ct_0, t.first⟩ : Hdr), (⟨at_1, ct_1, t.rest⟩ : Hdr)])[k]).L)[i])) || (Ref.hasInt (((Tier.access t key).1).rest) (((([(⟨at_0, ct_0, t.first⟩ : Hdr), (⟨at_1, ct_1, t.rest⟩ : Hdr)])[k]).L)[i])))) (c := (((([(⟨at_0, ct_0, t.first⟩ : Hdr), (⟨at_1, ct_1, t.rest⟩ : Hdr)])[k]).L)[i] == ((Tier.access t key).2.2))) rfl rfl Try.underlying4) rfl rfl rfl ?_
          refine o_nil ?_
          refine q_then ?_
          refine c_cond (b := (((Ref.hasInt (((Tier.access t key).1).first) (((([(⟨at_0, ct_0, t.first⟩ : Hdr), (⟨at_1, ct_1, t.rest⟩ : Hdr)])[k]).L)[i])) || (Ref.hasInt (((Tier.access t key).1).rest) (((([(⟨at_0, ct_0, t.first⟩ : Hdr), (⟨at_1, ct_1, t.rest⟩ : Hdr)])[k]).L)[i]))) == (((([(⟨at_0, ct_0, t.first⟩ : Hdr), (⟨at_1, ct_1, t.rest⟩ : Hdr)])[k]).L)[i] == ((Tier.access t key).2.2)))) rfl (fun hc26 => ?_) (fun hc26 => ?_)
          · simp only [beq_iff_eq] at hc26
            exfalso; exact Tier.moves_no (q4 _ (Tier.rows_in (by omega) (by omega))) hc26
          · simp only [beq_eq_false_iff_ne, ne_eq] at hc26
            refine c_skip ?_
            refine q_block_normal (q_then ?_)
            refine c_region ?_
            refine o_pure (p_move (v := .int .i64 (i : Int)) rfl) rfl rfl rfl ?_
            refine o_pure (p_addb (p := (i : Int)) (q := 1) rfl rfl (by omega)) rfl rfl rfl ?_
            refine o_pure (p_assign (v := .int .i64 ((i : Int) + 1)) rfl) rfl rfl rfl ?_
            refine o_nil ?_
            refine q_round hK23 (i + 1) ?_ ?_ ?_ ?_
            · clear hK23
              omega
            · (try dsimp only); omega
            · exact Sub.cons rfl (Sub.cons rfl (Sub.cons rfl (Sub.cons rfl (Sub.cons rfl (Sub.cons rfl (Sub.cons rfl (Sub.nil _)))))))
            · exact fun _ hw => HeapIs.pick hw [0, 1, 2, 3, 4] (by decide) rfl
        · simp only [decide_eq_false_iff_not, Int.not_lt] at hc24
          refine c_exit ?_
          refine q_then_exit (q_then_exit (q_block_exit (q_block_normal (q_then ?_))))
          refine c_region ?_
          refine o_pure (p_addb (p := (k : Int)) (q := 1) rfl rfl (by omega)) rfl rfl rfl ?_
          refine o_pure (p_move (v := .int .i64 ((k : Int) + 1)) rfl) rfl rfl rfl ?_
          refine o_nil ?_
          refine q_round hK21 (k + 1) ?_ ?_ ?_ ?_
          · clear hK21
            omega
          · (try dsimp only); omega
          · exact Sub.cons rfl (Sub.cons rfl (Sub.cons rfl (Sub.cons rfl (Sub.cons rfl (Sub.nil _)))))
          · exact fun _ hw => HeapIs.pick hw [0, 1, 2, 3, 4] (by decide) rfl
      · simp only [decide_eq_false_iff_not, Int.not_lt] at hc22
        refine c_exit ?_
        refine q_then_exit (q_then_exit (q_block_exit (q_then ?_)))
        refine c_seq ?_
        refine c_region ?_
        refine o_pure (p_assign (v := .bool true) rfl) rfl rfl rfl ?_
        refine o_nil ?_
        refine q_then ?_
        refine c_ret ?_
        refine q_end0 (v := .bool true) (rt1 rfl (r_tmp rfl)) (i := 4) rfl ?_
        exact rfl
end Go.Proofs.Ytgjdmnljnimamaa
