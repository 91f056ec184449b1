/- The walks, printed by a program from the translation and a specification. -/
import Derived.Test.YthbfdhphnofacadLdF
import Derived.Test.YthbfdhphnofacadLrLaw2
import Derived.Test.YthbfdhphnofacadLdW5
namespace Go.Proofs.Ythbfdhphnofacad
open Go.Sx Go.RowKit
set_option maxHeartbeats 8000000 in
set_option maxRecDepth 100000 in
theorem lruParts_ok (c : DCache) (ac_0 : Option Addr) (cc_0 : Nat) (l : List Int) (al : Option Addr) (cl : Nat) (m : List Int) (am : Option Addr) (cm : Nat) (hy1 : m.length ≤ 17592186044416) : Fn0 Try.prog 4 [.agg #[.int .i64 c.room, .slice ac_0 c.keys.length cc_0], .slice al l.length cl, .slice am m.length cm] (fun w => Rd tInt w ac_0 cc_0 c.keys ∧ Rd tInt w al cl l ∧ Rd tInt w am cm m) (.bool true) := by
  refine fn0 (nt := 76) (F0 := [(0, .agg #[.int .i64 c.room, .slice ac_0 c.keys.length cc_0]), (1, .slice al l.length cl), (2, .slice am m.length cm)]) Try.func4 rfl Try.ntmps4 rfl rfl (fun w0 hpre => ?_)
  obtain ⟨hc_0, hl, hm⟩ := hpre
  have hlhc_0 := hc_0.2.1
  have hlhl := hl.2.1
  have hlhm := hm.2.1
  refine c_seq ?_
  refine c_region ?_
  refine o_box (v := .agg #[.int .i64 c.room, .slice ac_0 c.keys.length cc_0]) rfl rfl (fun B1 => ?_)
  refine o_pure (p_assign (v := .bool false) rfl) rfl rfl rfl ?_
  refine o_nil ?_
  refine q_then ?_
  refine c_seq ?_
  refine c_region ?_
  refine o_pure (p_load_agg (i := 0) (vs := [.int .i64 c.room, .slice ac_0 c.keys.length cc_0]) rfl rfl sh24 rfl rfl) rfl rfl rfl ?_
  refine o_pure (p_move (v := .slice al l.length cl) rfl) rfl rfl rfl ?_
  refine o_callM rfl (lrun_ok c ac_0 cc_0 l al cl) hf15 (fun w hw => ⟨(rd_base (i := 1) rfl hc_0) w hw, (rd_base (i := 1) rfl hl) w hw⟩) rfl (fun _ _ _ _ ha hA => SlO.agree ha hA) ?_
  rintro ⟨a4, c5⟩ S2
  refine o_know (fun w hw => own_len (i := 0) (T := tInt) hw rfl) (fun hlr6 => ?_)
  refine o_pure (p_move (v := .tuple #[.agg #[.int .i64 (((Lru.run c l).1).room), .slice a4 (((Lru.run c l).1).keys).length c5], .int .i64 ((Lru.run c l).2), .int .i64 (Lru.runErr c l)]) rfl) rfl rfl rfl ?_
  refine o_pure (p_extract (vs := [.agg #[.int .i64 (((Lru.run c l).1).room), .slice a4 (((Lru.run c l).1).keys).length c5], .int .i64 ((Lru.run c l).2), .int .i64 (Lru.runErr c l)]) (v := .agg #[.int .i64 (((Lru.run c l).1).room), .slice a4 (((Lru.run c l).1).keys).length c5]) rfl rfl) rfl rfl rfl ?_
  refine o_pure (p_extract (vs := [.agg #[.int .i64 (((Lru.run c l).1).room), .slice a4 (((Lru.run c l).1).keys).length c5], .int .i64 ((Lru.run c l).2), .int .i64 (Lru.runErr c l)]) (v := .int .i64 ((Lru.run c l).2)) rfl rfl) rfl rfl rfl ?_
  refine o_pure (p_extract (vs := [.agg #[.int .i64 (((Lru.run c l).1).room), .slice a4 (((Lru.run c l).1).keys).length c5], .int .i64 ((Lru.run c l).2), .int .i64 (Lru.runErr c l)]) (v := .int .i64 (Lru.runErr c l)) rfl rfl) rfl rfl rfl ?_
  refine o_alloc ze24 rfl (fun B7 => ?_)
  refine o_storeN (i := 0) (vs := [.int .i64 (((Lru.run c l).1).room), .slice a4 (((Lru.run c l).1).keys).length c5]) (cs' := [.int .i64 (((Lru.run c l).1).room), .slice a4 (((Lru.run c l).1).keys).length c5]) rfl rfl rfl sz24 rfl rfl rfl rfl ?_
  refine o_pure (p_assign (v := .int .i64 ((Lru.run c l).2)) rfl) rfl rfl rfl ?_
  refine o_pure (p_assign (v := .int .i64 (Lru.runErr c l)) rfl) rfl rfl rfl ?_
  refine o_nil ?_
  refine q_then ?_
  refine c_seq ?_
  refine c_seq ?_
  refine c_region ?_
  refine o_call0 (v := .bool true) rfl (lruBegun_ok ) hf16 (fun _ _ => trivial) rfl ?_
  refine o_pure (p_not (b := true) rfl) rfl rfl rfl ?_
  refine o_nil ?_
  refine q_then ?_
  refine c_false rfl ?_
  refine c_skip ?_
  refine q_then ?_
  refine c_seq ?_
  refine c_seq ?_
  refine c_region ?_
  refine o_pure (p_move (v := .int .i64 (Lru.runErr c l)) rfl) rfl rfl rfl ?_
  refine o_pure (p_ne (p := (Lru.runErr c l)) (q := 0) rfl rfl) rfl rfl rfl ?_
  refine o_nil ?_
  refine q_then ?_
  refine c_cond (b := ((Lru.runErr c l) != 0)) rfl (fun hc8 => ?_) (fun hc8 => ?_)
  · simp only [bne_iff_ne, ne_eq] at hc8
    refine c_seq ?_
    refine c_region ?_
    refine o_pure (p_move (v := .int .i64 ((Lru.run c l).2)) rfl) rfl rfl rfl ?_
    refine o_pure (p_eq (p := ((Lru.run c l).2)) (q := 0) rfl rfl) rfl rfl rfl ?_
    refine o_pure (p_move (v := .bool (((Lru.run c l).2) == 0)) rfl) rfl rfl rfl ?_
    refine o_and (p := 34) 5 (((((Lru.run c l).1).keys).length : Int) == 0) ?_ ?_ ?_
    · intro hb9 hk
      simp only [beq_iff_eq] at hb9
      refine o_unguard 29 rfl rfl ?_
      refine o_pure (p_fieldAddr (B := B7) (j := 0) (j' := 1) rfl fo24_1 rfl) rfl rfl rfl ?_
      refine o_unguard 29 rfl rfl ?_
      refine o_pure (p_load (i := 0) (v := .slice a4 (((Lru.run c l).1).keys).length c5) rfl rfl sh22 rfl) rfl rfl rfl ?_
      refine o_unguard 29 rfl rfl ?_
      refine o_pure (p_len_slice (len := (((Lru.run c l).1).keys).length) rfl rfl Try.underlying22) rfl rfl rfl ?_
      refine o_unguard 29 rfl rfl ?_
      refine o_pure (p_eq (p := ((((Lru.run c l).1).keys).length : Int)) (q := 0) rfl rfl) rfl rfl rfl ?_
      refine o_pure (p_pick_true (u := .bool (((((Lru.run c l).1).keys).length : Int) == 0)) rfl rfl) rfl rfl rfl ?_
      exact o_sub (Sub.cons rfl (Sub.skip rfl (Sub.skip rfl (Sub.skip rfl (Sub.skip rfl (Sub.skip rfl (Sub.skip rfl (Sub.refl _)))))))) hk
    · intro hb9 hk
      refine o_guard_no rfl 29 rfl rfl rfl rfl rfl ?_
      refine o_guard_no rfl 29 rfl rfl rfl rfl rfl ?_
      refine o_guard_no rfl 29 rfl rfl rfl rfl rfl ?_
      refine o_guard_no rfl 29 rfl rfl rfl rfl rfl ?_
      refine o_pure (p_pick_false (v := .bool false) rfl rfl) rfl rfl rfl ?_
      exact o_sub (Sub.cons rfl (Sub.skip rfl (Sub.skip rfl (Sub.skip rfl (Sub.skip rfl (Sub.skip rfl (Sub.skip rfl (Sub.refl _)))))))) hk
    refine o_pure (p_assign (v := .bool ((((Lru.run c l).2) == 0) && (((((Lru.run c l).1).keys).length : Int) == 0))) rfl) rfl rfl rfl ?_
    refine o_nil ?_
    refine q_then ?_
    refine c_ret ?_
    refine q_then_ret ?_
    have hr0 : (((((Lru.run c l).2) == 0) && (((((Lru.run c l).1).keys).length : Int) == 0)) : Bool) = true := by
      first | exact Lru.parts_bool3 (by assumption) | exact Lru.parts_bool2 (by assumption) | exact Lru.parts_bool (by assumption) (by omega) (by omega)
    refine q_end0 (v := .bool ((((Lru.run c l).2) == 0) && (((((Lru.run c l).1).keys).length : Int) == 0))) (rt1 rfl (r_tmp rfl)) (i := 3) rfl ?_
    exact (by have hcc := congrArg (fun (y0 : Bool) => (.bool y0 : Value)) hr0; exact hcc)
  · simp only [bne_eq_false_iff_eq] at hc8
    have hsm := Lru.run_small hc8
    refine c_skip ?_
    refine q_then ?_
    refine c_seq ?_
    refine c_region ?_
    refine o_pure (p_load_agg (i := 0) (vs := [.int .i64 (((Lru.run c l).1).room), .slice a4 (((Lru.run c l).1).keys).length c5]) rfl rfl sh24 rfl rfl) rfl rfl rfl ?_
    refine o_pure (p_move (v := .slice am m.length cm) rfl) rfl rfl rfl ?_
    refine o_callM rfl (lrun_ok ((Lru.run c l).1) a4 c5 m am cm) hf15 (fun w hw => ⟨(rd_own (i := 1) rfl) w hw, (rd_base (i := 3) rfl hm) w hw⟩) rfl (fun _ _ _ _ ha hA => SlO.agree ha hA) ?_
    rintro ⟨a12, c13⟩ S10
    refine o_know (fun w hw => own_len (i := 0) (T := tInt) hw rfl) (fun hlr14 => ?_)
    refine o_pure (p_move (v := .tuple #[.agg #[.int .i64 (((Lru.run ((Lru.run c l).1) m).1).room), .slice a12 (((Lru.run ((Lru.run c l).1) m).1).keys).length c13], .int .i64 ((Lru.run ((Lru.run c l).1) m).2), .int .i64 (Lru.runErr ((Lru.run c l).1) m)]) rfl) rfl rfl rfl ?_
    refine o_pure (p_extract (vs := [.agg #[.int .i64 (((Lru.run ((Lru.run c l).1) m).1).room), .slice a12 (((Lru.run ((Lru.run c l).1) m).1).keys).length c13], .int .i64 ((Lru.run ((Lru.run c l).1) m).2), .int .i64 (Lru.runErr ((Lru.run c l).1) m)]) (v := .agg #[.int .i64 (((Lru.run ((Lru.run c l).1) m).1).room), .slice a12 (((Lru.run ((Lru.run c l).1) m).1).keys).length c13]) rfl rfl) rfl rfl rfl ?_
    refine o_pure (p_extract (vs := [.agg #[.int .i64 (((Lru.run ((Lru.run c l).1) m).1).room), .slice a12 (((Lru.run ((Lru.run c l).1) m).1).keys).length c13], .int .i64 ((Lru.run ((Lru.run c l).1) m).2), .int .i64 (Lru.runErr ((Lru.run c l).1) m)]) (v := .int .i64 ((Lru.run ((Lru.run c l).1) m).2)) rfl rfl) rfl rfl rfl ?_
    refine o_pure (p_extract (vs := [.agg #[.int .i64 (((Lru.run ((Lru.run c l).1) m).1).room), .slice a12 (((Lru.run ((Lru.run c l).1) m).1).keys).length c13], .int .i64 ((Lru.run ((Lru.run c l).1) m).2), .int .i64 (Lru.runErr ((Lru.run c l).1) m)]) (v := .int .i64 (Lru.runErr ((Lru.run c l).1) m)) rfl rfl) rfl rfl rfl ?_
    refine o_alloc ze24 rfl (fun B15 => ?_)
    refine o_storeN (i := 0) (vs := [.int .i64 (((Lru.run ((Lru.run c l).1) m).1).room), .slice a12 (((Lru.run ((Lru.run c l).1) m).1).keys).length c13]) (cs' := [.int .i64 (((Lru.run ((Lru.run c l).1) m).1).room), .slice a12 (((Lru.run ((Lru.run c l).1) m).1).keys).length c13]) rfl rfl rfl sz24 rfl rfl rfl rfl ?_
    refine o_pure (p_assign (v := .int .i64 ((Lru.run ((Lru.run c l).1) m).2)) rfl) rfl rfl rfl ?_
    refine o_pure (p_assign (v := .int .i64 (Lru.runErr ((Lru.run c l).1) m)) rfl) rfl rfl rfl ?_
    refine o_nil ?_
    refine q_then ?_
    refine c_seq ?_
    refine c_cut (G := Option Addr × Nat × (Nat → Prop) × (Nat → Prop) × Option Addr × Nat × Nat) (fun ⟨a16_5, c16_5, S16_5, S16_6, a16_6, c16_6, B16_11⟩ => [(8, .int .i64 ((Lru.run c l).2)), (10, .pointer (some ⟨B15, 0, none⟩)), (11, .int .i64 ((Lru.run ((Lru.run c l).1) m).2)), (12, .int .i64 (Lru.runErr ((Lru.run c l).1) m)), (13, .pointer (some ⟨B16_11, 0, none⟩)), (14, .int .i64 ((Lru.run c (([] ++ l) ++ m)).2)), (15, .int .i64 (Lru.runErr c (([] ++ l) ++ m)))]) (fun ⟨a16_5, c16_5, S16_5, S16_6, a16_6, c16_6, B16_11⟩ => [box B16_11 [.int .i64 (((Lru.run c (([] ++ l) ++ m)).1).room), .slice a16_6 (((Lru.run c (([] ++ l) ++ m)).1).keys).length c16_6] 24, own tInt S16_6 a16_6 c16_6 (((Lru.run c (([] ++ l) ++ m)).1).keys), own tInt S16_5 a16_5 c16_5 (([] ++ l) ++ m), box B15 [.int .i64 (((Lru.run ((Lru.run c l).1) m).1).room), .slice a12 (((Lru.run ((Lru.run c l).1) m).1).keys).length c13] 24, own tInt S10 a12 c13 (((Lru.run ((Lru.run c l).1) m).1).keys), box B7 [.int .i64 (((Lru.run c l).1).room), .slice a4 (((Lru.run c l).1).keys).length c5] 24, own tInt S2 a4 c5 (((Lru.run c l).1).keys), box B1 [.int .i64 c.room, .slice ac_0 c.keys.length cc_0] 24, base w0]) (fun K hK17 => ?_) ?_
    · refine c_held hmix [box B15 [.int .i64 (((Lru.run ((Lru.run c l).1) m).1).room), .slice a12 (((Lru.run ((Lru.run c l).1) m).1).keys).length c13] 24, own tInt S10 a12 c13 (((Lru.run ((Lru.run c l).1) m).1).keys), box B7 [.int .i64 (((Lru.run c l).1).room), .slice a4 (((Lru.run c l).1).keys).length c5] 24, own tInt S2 a4 c5 (((Lru.run c l).1).keys), box B1 [.int .i64 c.room, .slice ac_0 c.keys.length cc_0] 24, base w0] rfl rfl ?_
      refine h_take (i := 0) (ls := #[true, false, false, false, false, false, false, false, false, false, false, false, false, false, false]) rfl (by kernel_rfl) (by kernel_rfl) (by kernel_rfl) (fun _ _ _ h => h) (p_load_agg (i := 4) (vs := [.int .i64 c.room, .slice ac_0 c.keys.length cc_0]) rfl rfl sh24 rfl rfl) rfl rfl rfl (fun _ hw => HeapIs.drop hw (List.Sublist.refl _)) rfl ?_
      refine h_take (i := 2) (ls := #[true, false, true, false, false, false, false, false, false, false, false, false, false, false, false]) rfl (by kernel_rfl) (by kernel_rfl) (by kernel_rfl) (fun _ _ _ h => h) (p_move (v := .slice al l.length cl) rfl) rfl rfl rfl (fun _ hw => HeapIs.drop hw (List.Sublist.refl _)) rfl ?_
      refine h_take (i := 4) (ls := #[true, false, true, false, true, false, false, false, false, false, false, false, false, false, false]) rfl (by kernel_rfl) (by kernel_rfl) (by kernel_rfl) (fun _ _ _ h => h) (p_move (v := .slice am m.length cm) rfl) rfl rfl rfl (fun _ hw => HeapIs.drop hw (List.Sublist.refl _)) rfl ?_
      refine h_two (i := 1) (j := 11) (ls := #[true, true, true, false, true, false, false, false, false, false, false, false, false, false, false]) (ls' := #[true, false, true, false, true, false, false, false, false, false, false, true, false, false, false]) (by kernel_rfl) rfl rfl rfl rfl ?_ ?_
      · refine o_buildSlice (m := 0) (T := tInt) (L := []) (vs := []) rfl rfl rfl rfl Try.underlying22 sz3 (by decide) ze3 rfl (by decide) rfl (fun S16_1 a16_1 => ?_)
        refine o_nil ?_
        refine h_next (fun _ hw => HeapIs.drop hw (List.Sublist.cons _ (List.Sublist.cons_cons _ (List.Sublist.cons_cons _ (List.Sublist.cons_cons _ (List.Sublist.cons_cons _ (List.Sublist.cons_cons _ (List.Sublist.cons_cons _ (List.Sublist.slnil))))))))) ?_
        refine h_two (i := 3) (j := 11) (ls := #[true, true, true, true, true, false, false, false, false, false, false, false, false, false, false]) (ls' := #[true, true, true, false, true, false, false, false, false, false, false, true, false, false, false]) (by kernel_rfl) rfl rfl rfl rfl ?_ ?_
        · refine o_append (i := 0) (L := []) (M := l) (T := tInt) rfl rfl rfl (rd_base (i := 6) rfl hl) Try.underlying22 Try.underlying22 (by intro k h; cases h) el3 (by intro z; simp [tInt, one1]) (by decide) (by simp only [List.length_nil, List.length_append]; omega) rfl (fun a16_3 c16_3 S16_3 => ?_)
          refine o_nil ?_
          refine h_next (fun _ hw => HeapIs.drop hw (List.Sublist.cons _ (List.Sublist.cons_cons _ (List.Sublist.cons_cons _ (List.Sublist.cons_cons _ (List.Sublist.cons_cons _ (List.Sublist.cons_cons _ (List.Sublist.cons_cons _ (List.Sublist.slnil))))))))) ?_
          refine h_two (i := 5) (j := 11) (ls := #[true, true, true, true, true, true, false, false, false, false, false, false, false, false, false]) (ls' := #[true, true, true, true, true, false, false, false, false, false, false, true, false, false, false]) (by kernel_rfl) rfl rfl rfl rfl ?_ ?_
          · refine o_append (i := 0) (L := ([] ++ l)) (M := m) (T := tInt) rfl rfl rfl (rd_base (i := 6) rfl hm) Try.underlying22 Try.underlying22 (by intro k h; cases h) el3 (by intro z; simp [tInt, one1]) (by decide) (by simp only [List.length_nil, List.length_append]; omega) rfl (fun a16_5 c16_5 S16_5 => ?_)
            refine o_nil ?_
            refine h_next (fun _ hw => HeapIs.drop hw (List.Sublist.cons _ (List.Sublist.cons_cons _ (List.Sublist.cons_cons _ (List.Sublist.cons_cons _ (List.Sublist.cons_cons _ (List.Sublist.cons_cons _ (List.Sublist.cons_cons _ (List.Sublist.slnil))))))))) ?_
            refine h_two (i := 6) (j := 11) (ls := #[true, true, true, true, true, true, true, false, false, false, false, false, false, false, false]) (ls' := #[true, true, true, true, true, true, false, false, false, false, false, true, false, false, false]) (by kernel_rfl) rfl rfl rfl rfl ?_ ?_
            · refine o_callM rfl (lrun_ok c ac_0 cc_0 (([] ++ l) ++ m) a16_5 c16_5) hf15 (fun w hw => ⟨(rd_base (i := 6) rfl hc_0) w hw, (rd_own (i := 0) rfl) w hw⟩) rfl (fun _ _ _ _ ha hA => SlO.agree ha hA) ?_
              rintro ⟨a16_6, c16_6⟩ S16_6
              refine o_know (fun w hw => own_len (i := 0) (T := tInt) hw rfl) (fun hlr16_6 => ?_)
              refine o_nil ?_
              refine h_next (fun _ hw => HeapIs.drop hw (List.Sublist.cons _ (List.Sublist.cons _ (List.Sublist.cons_cons _ (List.Sublist.cons_cons _ (List.Sublist.cons_cons _ (List.Sublist.cons_cons _ (List.Sublist.cons_cons _ (List.Sublist.cons_cons _ (List.Sublist.slnil)))))))))) ?_
              refine h_take (i := 7) (ls := #[true, true, true, true, true, true, true, true, false, false, false, false, false, false, false]) rfl (by kernel_rfl) (by kernel_rfl) (by kernel_rfl) (fun _ _ _ h => h) (p_move (v := .tuple #[.agg #[.int .i64 (((Lru.run c (([] ++ l) ++ m)).1).room), .slice a16_6 (((Lru.run c (([] ++ l) ++ m)).1).keys).length c16_6], .int .i64 ((Lru.run c (([] ++ l) ++ m)).2), .int .i64 (Lru.runErr c (([] ++ l) ++ m))]) rfl) rfl rfl rfl (fun _ hw => HeapIs.drop hw (List.Sublist.cons _ (List.Sublist.cons _ (List.Sublist.cons_cons _ (List.Sublist.cons_cons _ (List.Sublist.cons_cons _ (List.Sublist.cons_cons _ (List.Sublist.cons_cons _ (List.Sublist.cons_cons _ (List.Sublist.slnil)))))))))) rfl ?_
              refine h_take (i := 8) (ls := #[true, true, true, true, true, true, true, true, true, false, false, false, false, false, false]) rfl (by kernel_rfl) (by kernel_rfl) (by kernel_rfl) (fun _ _ _ h => h) (p_extract (vs := [.agg #[.int .i64 (((Lru.run c (([] ++ l) ++ m)).1).room), .slice a16_6 (((Lru.run c (([] ++ l) ++ m)).1).keys).length c16_6], .int .i64 ((Lru.run c (([] ++ l) ++ m)).2), .int .i64 (Lru.runErr c (([] ++ l) ++ m))]) (v := .agg #[.int .i64 (((Lru.run c (([] ++ l) ++ m)).1).room), .slice a16_6 (((Lru.run c (([] ++ l) ++ m)).1).keys).length c16_6]) rfl rfl) rfl rfl rfl (fun _ hw => HeapIs.drop hw (List.Sublist.cons _ (List.Sublist.cons _ (List.Sublist.cons_cons _ (List.Sublist.cons_cons _ (List.Sublist.cons_cons _ (List.Sublist.cons_cons _ (List.Sublist.cons_cons _ (List.Sublist.cons_cons _ (List.Sublist.slnil)))))))))) rfl ?_
              refine h_take (i := 9) (ls := #[true, true, true, true, true, true, true, true, true, true, false, false, false, false, false]) rfl (by kernel_rfl) (by kernel_rfl) (by kernel_rfl) (fun _ _ _ h => h) (p_extract (vs := [.agg #[.int .i64 (((Lru.run c (([] ++ l) ++ m)).1).room), .slice a16_6 (((Lru.run c (([] ++ l) ++ m)).1).keys).length c16_6], .int .i64 ((Lru.run c (([] ++ l) ++ m)).2), .int .i64 (Lru.runErr c (([] ++ l) ++ m))]) (v := .int .i64 ((Lru.run c (([] ++ l) ++ m)).2)) rfl rfl) rfl rfl rfl (fun _ hw => HeapIs.drop hw (List.Sublist.cons _ (List.Sublist.cons _ (List.Sublist.cons_cons _ (List.Sublist.cons_cons _ (List.Sublist.cons_cons _ (List.Sublist.cons_cons _ (List.Sublist.cons_cons _ (List.Sublist.cons_cons _ (List.Sublist.slnil)))))))))) rfl ?_
              refine h_take (i := 10) (ls := #[true, true, true, true, true, true, true, true, true, true, true, false, false, false, false]) rfl (by kernel_rfl) (by kernel_rfl) (by kernel_rfl) (fun _ _ _ h => h) (p_extract (vs := [.agg #[.int .i64 (((Lru.run c (([] ++ l) ++ m)).1).room), .slice a16_6 (((Lru.run c (([] ++ l) ++ m)).1).keys).length c16_6], .int .i64 ((Lru.run c (([] ++ l) ++ m)).2), .int .i64 (Lru.runErr c (([] ++ l) ++ m))]) (v := .int .i64 (Lru.runErr c (([] ++ l) ++ m))) rfl rfl) rfl rfl rfl (fun _ hw => HeapIs.drop hw (List.Sublist.cons _ (List.Sublist.cons _ (List.Sublist.cons_cons _ (List.Sublist.cons_cons _ (List.Sublist.cons_cons _ (List.Sublist.cons_cons _ (List.Sublist.cons_cons _ (List.Sublist.cons_cons _ (List.Sublist.slnil)))))))))) rfl ?_
              refine h_one (i := 11) (ls := #[true, true, true, true, true, true, true, true, true, true, true, true, false, false, false]) (by kernel_rfl) rfl rfl ?_
              refine o_alloc ze24 rfl (fun B16_11 => ?_)
              refine o_nil ?_
              refine h_next (fun _ hw => HeapIs.drop hw (List.Sublist.cons _ (List.Sublist.cons _ (List.Sublist.cons _ (List.Sublist.cons_cons _ (List.Sublist.cons_cons _ (List.Sublist.cons_cons _ (List.Sublist.cons_cons _ (List.Sublist.cons_cons _ (List.Sublist.cons_cons _ (List.Sublist.slnil))))))))))) ?_
              refine h_one (i := 12) (ls := #[true, true, true, true, true, true, true, true, true, true, true, true, true, false, false]) (by kernel_rfl) rfl rfl ?_
              refine o_storeN (i := 0) (vs := [.int .i64 (((Lru.run c (([] ++ l) ++ m)).1).room), .slice a16_6 (((Lru.run c (([] ++ l) ++ m)).1).keys).length c16_6]) (cs' := [.int .i64 (((Lru.run c (([] ++ l) ++ m)).1).room), .slice a16_6 (((Lru.run c (([] ++ l) ++ m)).1).keys).length c16_6]) rfl rfl rfl sz24 rfl rfl rfl rfl ?_
              refine o_nil ?_
              refine h_next (fun _ hw => HeapIs.drop hw (List.Sublist.cons _ (List.Sublist.cons _ (List.Sublist.cons _ (List.Sublist.cons_cons _ (List.Sublist.cons_cons _ (List.Sublist.cons_cons _ (List.Sublist.cons_cons _ (List.Sublist.cons_cons _ (List.Sublist.cons_cons _ (List.Sublist.slnil))))))))))) ?_
              refine h_take (i := 13) (ls := #[true, true, true, true, true, true, true, true, true, true, true, true, true, true, false]) rfl (by kernel_rfl) (by kernel_rfl) (by kernel_rfl) (fun _ _ _ h => h) (p_assign (v := .int .i64 ((Lru.run c (([] ++ l) ++ m)).2)) rfl) rfl rfl rfl (fun _ hw => HeapIs.drop hw (List.Sublist.cons _ (List.Sublist.cons _ (List.Sublist.cons _ (List.Sublist.cons_cons _ (List.Sublist.cons_cons _ (List.Sublist.cons_cons _ (List.Sublist.cons_cons _ (List.Sublist.cons_cons _ (List.Sublist.cons_cons _ (List.Sublist.slnil))))))))))) rfl ?_
              refine h_take (i := 14) (ls := #[true, true, true, true, true, true, true, true, true, true, true, true, true, true, true]) rfl (by kernel_rfl) (by kernel_rfl) (by kernel_rfl) (fun _ _ _ h => h) (p_assign (v := .int .i64 (Lru.runErr c (([] ++ l) ++ m))) rfl) rfl rfl rfl (fun _ hw => HeapIs.drop hw (List.Sublist.cons _ (List.Sublist.cons _ (List.Sublist.cons _ (List.Sublist.cons_cons _ (List.Sublist.cons_cons _ (List.Sublist.cons_cons _ (List.Sublist.cons_cons _ (List.Sublist.cons_cons _ (List.Sublist.cons_cons _ (List.Sublist.slnil))))))))))) rfl ?_
              refine h_done (by kernel_rfl) ?_
              refine q_kont hK17 (a16_5, c16_5, S16_5, S16_6, a16_6, c16_6, B16_11) (Sub.cons rfl (Sub.cons rfl (Sub.cons rfl (Sub.cons rfl (Sub.cons rfl (Sub.cons rfl (Sub.cons rfl (Sub.nil _)))))))) (fun _ hw => HeapIs.pick hw [0, 1, 2, 3, 4, 5, 6, 7, 8] (by decide) rfl)
            · refine o_alloc ze24 rfl (fun B16_11 => ?_)
              refine o_nil ?_
              refine h_next (fun _ hw => HeapIs.drop hw (List.Sublist.cons _ (List.Sublist.cons _ (List.Sublist.cons_cons _ (List.Sublist.cons_cons _ (List.Sublist.cons_cons _ (List.Sublist.cons_cons _ (List.Sublist.cons_cons _ (List.Sublist.cons_cons _ (List.Sublist.slnil)))))))))) ?_
              refine h_one (i := 6) (ls := #[true, true, true, true, true, true, true, false, false, false, false, true, false, false, false]) (by kernel_rfl) rfl rfl ?_
              refine o_callM rfl (lrun_ok c ac_0 cc_0 (([] ++ l) ++ m) a16_5 c16_5) hf15 (fun w hw => ⟨(rd_base (i := 7) rfl hc_0) w hw, (rd_own (i := 1) rfl) w hw⟩) rfl (fun _ _ _ _ ha hA => SlO.agree ha hA) ?_
              rintro ⟨a16_6, c16_6⟩ S16_6
              refine o_know (fun w hw => own_len (i := 0) (T := tInt) hw rfl) (fun hlr16_6 => ?_)
              refine o_nil ?_
              refine h_next (fun _ hw => HeapIs.drop hw (List.Sublist.cons _ (List.Sublist.cons _ (List.Sublist.cons _ (List.Sublist.cons_cons _ (List.Sublist.cons_cons _ (List.Sublist.cons_cons _ (List.Sublist.cons_cons _ (List.Sublist.cons_cons _ (List.Sublist.cons_cons _ (List.Sublist.slnil))))))))))) ?_
              refine h_take (i := 7) (ls := #[true, true, true, true, true, true, true, true, false, false, false, true, false, false, false]) rfl (by kernel_rfl) (by kernel_rfl) (by kernel_rfl) (fun _ _ _ h => h) (p_move (v := .tuple #[.agg #[.int .i64 (((Lru.run c (([] ++ l) ++ m)).1).room), .slice a16_6 (((Lru.run c (([] ++ l) ++ m)).1).keys).length c16_6], .int .i64 ((Lru.run c (([] ++ l) ++ m)).2), .int .i64 (Lru.runErr c (([] ++ l) ++ m))]) rfl) rfl rfl rfl (fun _ hw => HeapIs.drop hw (List.Sublist.cons _ (List.Sublist.cons _ (List.Sublist.cons _ (List.Sublist.cons_cons _ (List.Sublist.cons_cons _ (List.Sublist.cons_cons _ (List.Sublist.cons_cons _ (List.Sublist.cons_cons _ (List.Sublist.cons_cons _ (List.Sublist.slnil))))))))))) rfl ?_
              refine h_take (i := 8) (ls := #[true, true, true, true, true, true, true, true, true, false, false, true, false, false, false]) rfl (by kernel_rfl) (by kernel_rfl) (by kernel_rfl) (fun _ _ _ h => h) (p_extract (vs := [.agg #[.int .i64 (((Lru.run c (([] ++ l) ++ m)).1).room), .slice a16_6 (((Lru.run c (([] ++ l) ++ m)).1).keys).length c16_6], .int .i64 ((Lru.run c (([] ++ l) ++ m)).2), .int .i64 (Lru.runErr c (([] ++ l) ++ m))]) (v := .agg #[.int .i64 (((Lru.run c (([] ++ l) ++ m)).1).room), .slice a16_6 (((Lru.run c (([] ++ l) ++ m)).1).keys).length c16_6]) rfl rfl) rfl rfl rfl (fun _ hw => HeapIs.drop hw (List.Sublist.cons _ (List.Sublist.cons _ (List.Sublist.cons _ (List.Sublist.cons_cons _ (List.Sublist.cons_cons _ (List.Sublist.cons_cons _ (List.Sublist.cons_cons _ (List.Sublist.cons_cons _ (List.Sublist.cons_cons _ (List.Sublist.slnil))))))))))) rfl ?_
              refine h_take (i := 9) (ls := #[true, true, true, true, true, true, true, true, true, true, false, true, false, false, false]) rfl (by kernel_rfl) (by kernel_rfl) (by kernel_rfl) (fun _ _ _ h => h) (p_extract (vs := [.agg #[.int .i64 (((Lru.run c (([] ++ l) ++ m)).1).room), .slice a16_6 (((Lru.run c (([] ++ l) ++ m)).1).keys).length c16_6], .int .i64 ((Lru.run c (([] ++ l) ++ m)).2), .int .i64 (Lru.runErr c (([] ++ l) ++ m))]) (v := .int .i64 ((Lru.run c (([] ++ l) ++ m)).2)) rfl rfl) rfl rfl rfl (fun _ hw => HeapIs.drop hw (List.Sublist.cons _ (List.Sublist.cons _ (List.Sublist.cons _ (List.Sublist.cons_cons _ (List.Sublist.cons_cons _ (List.Sublist.cons_cons _ (List.Sublist.cons_cons _ (List.Sublist.cons_cons _ (List.Sublist.cons_cons _ (List.Sublist.slnil))))))))))) rfl ?_
              refine h_take (i := 10) (ls := #[true, true, true, true, true, true, true, true, true, true, true, true, false, false, false]) rfl (by kernel_rfl) (by kernel_rfl) (by kernel_rfl) (fun _ _ _ h => h) (p_extract (vs := [.agg #[.int .i64 (((Lru.run c (([] ++ l) ++ m)).1).room), .slice a16_6 (((Lru.run c (([] ++ l) ++ m)).1).keys).length c16_6], .int .i64 ((Lru.run c (([] ++ l) ++ m)).2), .int .i64 (Lru.runErr c (([] ++ l) ++ m))]) (v := .int .i64 (Lru.runErr c (([] ++ l) ++ m))) rfl rfl) rfl rfl rfl (fun _ hw => HeapIs.drop hw (List.Sublist.cons _ (List.Sublist.cons _ (List.Sublist.cons _ (List.Sublist.cons_cons _ (List.Sublist.cons_cons _ (List.Sublist.cons_cons _ (List.Sublist.cons_cons _ (List.Sublist.cons_cons _ (List.Sublist.cons_cons _ (List.Sublist.slnil))))))))))) rfl ?_
              refine h_one (i := 12) (ls := #[true, true, true, true, true, true, true, true, true, true, true, true, true, false, false]) (by kernel_rfl) rfl rfl ?_
              refine o_storeN (i := 1) (vs := [.int .i64 (((Lru.run c (([] ++ l) ++ m)).1).room), .slice a16_6 (((Lru.run c (([] ++ l) ++ m)).1).keys).length c16_6]) (cs' := [.int .i64 (((Lru.run c (([] ++ l) ++ m)).1).room), .slice a16_6 (((Lru.run c (([] ++ l) ++ m)).1).keys).length c16_6]) rfl rfl rfl sz24 rfl rfl rfl rfl ?_
              refine o_nil ?_
              refine h_next (fun _ hw => HeapIs.drop hw (List.Sublist.cons _ (List.Sublist.cons _ (List.Sublist.cons _ (List.Sublist.cons_cons _ (List.Sublist.cons_cons _ (List.Sublist.cons_cons _ (List.Sublist.cons_cons _ (List.Sublist.cons_cons _ (List.Sublist.cons_cons _ (List.Sublist.slnil))))))))))) ?_
              refine h_take (i := 13) (ls := #[true, true, true, true, true, true, true, true, true, true, true, true, true, true, false]) rfl (by kernel_rfl) (by kernel_rfl) (by kernel_rfl) (fun _ _ _ h => h) (p_assign (v := .int .i64 ((Lru.run c (([] ++ l) ++ m)).2)) rfl) rfl rfl rfl (fun _ hw => HeapIs.drop hw (List.Sublist.cons _ (List.Sublist.cons _ (List.Sublist.cons _ (List.Sublist.cons_cons _ (List.Sublist.cons_cons _ (List.Sublist.cons_cons _ (List.Sublist.cons_cons _ (List.Sublist.cons_cons _ (List.Sublist.cons_cons _ (List.Sublist.slnil))))))))))) rfl ?_
              refine h_take (i := 14) (ls := #[true, true, true, true, true, true, true, true, true, true, true, true, true, true, true]) rfl (by kernel_rfl) (by kernel_rfl) (by kernel_rfl) (fun _ _ _ h => h) (p_assign (v := .int .i64 (Lru.runErr c (([] ++ l) ++ m))) rfl) rfl rfl rfl (fun _ hw => HeapIs.drop hw (List.Sublist.cons _ (List.Sublist.cons _ (List.Sublist.cons _ (List.Sublist.cons_cons _ (List.Sublist.cons_cons _ (List.Sublist.cons_cons _ (List.Sublist.cons_cons _ (List.Sublist.cons_cons _ (List.Sublist.cons_cons _ (List.Sublist.slnil))))))))))) rfl ?_
              refine h_done (by kernel_rfl) ?_
              refine q_kont hK17 (a16_5, c16_5, S16_5, S16_6, a16_6, c16_6, B16_11) (Sub.cons rfl (Sub.cons rfl (Sub.cons rfl (Sub.cons rfl (Sub.cons rfl (Sub.cons rfl (Sub.cons rfl (Sub.nil _)))))))) (fun _ hw => HeapIs.pick hw [1, 0, 2, 3, 4, 5, 6, 7, 8] (by decide) rfl)
          · refine o_alloc ze24 rfl (fun B16_11 => ?_)
            refine o_nil ?_
            refine h_next (fun _ hw => HeapIs.drop hw (List.Sublist.cons _ (List.Sublist.cons _ (List.Sublist.cons_cons _ (List.Sublist.cons_cons _ (List.Sublist.cons_cons _ (List.Sublist.cons_cons _ (List.Sublist.cons_cons _ (List.Sublist.cons_cons _ (List.Sublist.slnil)))))))))) ?_
            refine h_one (i := 5) (ls := #[true, true, true, true, true, true, false, false, false, false, false, true, false, false, false]) (by kernel_rfl) rfl rfl ?_
            refine o_append (i := 1) (L := ([] ++ l)) (M := m) (T := tInt) rfl rfl rfl (rd_base (i := 7) rfl hm) Try.underlying22 Try.underlying22 (by intro k h; cases h) el3 (by intro z; simp [tInt, one1]) (by decide) (by simp only [List.length_nil, List.length_append]; omega) rfl (fun a16_5 c16_5 S16_5 => ?_)
            refine o_nil ?_
            refine h_next (fun _ hw => HeapIs.drop hw (List.Sublist.cons _ (List.Sublist.cons _ (List.Sublist.cons_cons _ (List.Sublist.cons_cons _ (List.Sublist.cons_cons _ (List.Sublist.cons_cons _ (List.Sublist.cons_cons _ (List.Sublist.cons_cons _ (List.Sublist.slnil)))))))))) ?_
            refine h_one (i := 6) (ls := #[true, true, true, true, true, true, true, false, false, false, false, true, false, false, false]) (by kernel_rfl) rfl rfl ?_
            refine o_callM rfl (lrun_ok c ac_0 cc_0 (([] ++ l) ++ m) a16_5 c16_5) hf15 (fun w hw => ⟨(rd_base (i := 7) rfl hc_0) w hw, (rd_own (i := 1) rfl) w hw⟩) rfl (fun _ _ _ _ ha hA => SlO.agree ha hA) ?_
            rintro ⟨a16_6, c16_6⟩ S16_6
            refine o_know (fun w hw => own_len (i := 0) (T := tInt) hw rfl) (fun hlr16_6 => ?_)
            refine o_nil ?_
            refine h_next (fun _ hw => HeapIs.drop hw (List.Sublist.cons _ (List.Sublist.cons _ (List.Sublist.cons _ (List.Sublist.cons_cons _ (List.Sublist.cons_cons _ (List.Sublist.cons_cons _ (List.Sublist.cons_cons _ (List.Sublist.cons_cons _ (List.Sublist.cons_cons _ (List.Sublist.slnil))))))))))) ?_
            refine h_take (i := 7) (ls := #[true, true, true, true, true, true, true, true, false, false, false, true, false, false, false]) rfl (by kernel_rfl) (by kernel_rfl) (by kernel_rfl) (fun _ _ _ h => h) (p_move (v := .tuple #[.agg #[.int .i64 (((Lru.run c (([] ++ l) ++ m)).1).room), .slice a16_6 (((Lru.run c (([] ++ l) ++ m)).1).keys).length c16_6], .int .i64 ((Lru.run c (([] ++ l) ++ m)).2), .int .i64 (Lru.runErr c (([] ++ l) ++ m))]) rfl) rfl rfl rfl (fun _ hw => HeapIs.drop hw (List.Sublist.cons _ (List.Sublist.cons _ (List.Sublist.cons _ (List.Sublist.cons_cons _ (List.Sublist.cons_cons _ (List.Sublist.cons_cons _ (List.Sublist.cons_cons _ (List.Sublist.cons_cons _ (List.Sublist.cons_cons _ (List.Sublist.slnil))))))))))) rfl ?_
            refine h_take (i := 8) (ls := #[true, true, true, true, true, true, true, true, true, false, false, true, false, false, false]) rfl (by kernel_rfl) (by kernel_rfl) (by kernel_rfl) (fun _ _ _ h => h) (p_extract (vs := [.agg #[.int .i64 (((Lru.run c (([] ++ l) ++ m)).1).room), .slice a16_6 (((Lru.run c (([] ++ l) ++ m)).1).keys).length c16_6], .int .i64 ((Lru.run c (([] ++ l) ++ m)).2), .int .i64 (Lru.runErr c (([] ++ l) ++ m))]) (v := .agg #[.int .i64 (((Lru.run c (([] ++ l) ++ m)).1).room), .slice a16_6 (((Lru.run c (([] ++ l) ++ m)).1).keys).length c16_6]) rfl rfl) rfl rfl rfl (fun _ hw => HeapIs.drop hw (List.Sublist.cons _ (List.Sublist.cons _ (List.Sublist.cons _ (List.Sublist.cons_cons _ (List.Sublist.cons_cons _ (List.Sublist.cons_cons _ (List.Sublist.cons_cons _ (List.Sublist.cons_cons _ (List.Sublist.cons_cons _ (List.Sublist.slnil))))))))))) rfl ?_
            refine h_take (i := 9) (ls := #[true, true, true, true, true, true, true, true, true, true, false, true, false, false, false]) rfl (by kernel_rfl) (by kernel_rfl) (by kernel_rfl) (fun _ _ _ h => h) (p_extract (vs := [.agg #[.int .i64 (((Lru.run c (([] ++ l) ++ m)).1).room), .slice a16_6 (((Lru.run c (([] ++ l) ++ m)).1).keys).length c16_6], .int .i64 ((Lru.run c (([] ++ l) ++ m)).2), .int .i64 (Lru.runErr c (([] ++ l) ++ m))]) (v := .int .i64 ((Lru.run c (([] ++ l) ++ m)).2)) rfl rfl) rfl rfl rfl (fun _ hw => HeapIs.drop hw (List.Sublist.cons _ (List.Sublist.cons _ (List.Sublist.cons _ (List.Sublist.cons_cons _ (List.Sublist.cons_cons _ (List.Sublist.cons_cons _ (List.Sublist.cons_cons _ (List.Sublist.cons_cons _ (List.Sublist.cons_cons _ (List.Sublist.slnil))))))))))) rfl ?_
            refine h_take (i := 10) (ls := #[true, true, true, true, true, true, true, true, true, true, true, true, false, false, false]) rfl (by kernel_rfl) (by kernel_rfl) (by kernel_rfl) (fun _ _ _ h => h) (p_extract (vs := [.agg #[.int .i64 (((Lru.run c (([] ++ l) ++ m)).1).room), .slice a16_6 (((Lru.run c (([] ++ l) ++ m)).1).keys).length c16_6], .int .i64 ((Lru.run c (([] ++ l) ++ m)).2), .int .i64 (Lru.runErr c (([] ++ l) ++ m))]) (v := .int .i64 (Lru.runErr c (([] ++ l) ++ m))) rfl rfl) rfl rfl rfl (fun _ hw => HeapIs.drop hw (List.Sublist.cons _ (List.Sublist.cons _ (List.Sublist.cons _ (List.Sublist.cons_cons _ (List.Sublist.cons_cons _ (List.Sublist.cons_cons _ (List.Sublist.cons_cons _ (List.Sublist.cons_cons _ (List.Sublist.cons_cons _ (List.Sublist.slnil))))))))))) rfl ?_
            refine h_one (i := 12) (ls := #[true, true, true, true, true, true, true, true, true, true, true, true, true, false, false]) (by kernel_rfl) rfl rfl ?_
            refine o_storeN (i := 1) (vs := [.int .i64 (((Lru.run c (([] ++ l) ++ m)).1).room), .slice a16_6 (((Lru.run c (([] ++ l) ++ m)).1).keys).length c16_6]) (cs' := [.int .i64 (((Lru.run c (([] ++ l) ++ m)).1).room), .slice a16_6 (((Lru.run c (([] ++ l) ++ m)).1).keys).length c16_6]) rfl rfl rfl sz24 rfl rfl rfl rfl ?_
            refine o_nil ?_
            refine h_next (fun _ hw => HeapIs.drop hw (List.Sublist.cons _ (List.Sublist.cons _ (List.Sublist.cons _ (List.Sublist.cons_cons _ (List.Sublist.cons_cons _ (List.Sublist.cons_cons _ (List.Sublist.cons_cons _ (List.Sublist.cons_cons _ (List.Sublist.cons_cons _ (List.Sublist.slnil))))))))))) ?_
            refine h_take (i := 13) (ls := #[true, true, true, true, true, true, true, true, true, true, true, true, true, true, false]) rfl (by kernel_rfl) (by kernel_rfl) (by kernel_rfl) (fun _ _ _ h => h) (p_assign (v := .int .i64 ((Lru.run c (([] ++ l) ++ m)).2)) rfl) rfl rfl rfl (fun _ hw => HeapIs.drop hw (List.Sublist.cons _ (List.Sublist.cons _ (List.Sublist.cons _ (List.Sublist.cons_cons _ (List.Sublist.cons_cons _ (List.Sublist.cons_cons _ (List.Sublist.cons_cons _ (List.Sublist.cons_cons _ (List.Sublist.cons_cons _ (List.Sublist.slnil))))))))))) rfl ?_
            refine h_take (i := 14) (ls := #[true, true, true, true, true, true, true, true, true, true, true, true, true, true, true]) rfl (by kernel_rfl) (by kernel_rfl) (by kernel_rfl) (fun _ _ _ h => h) (p_assign (v := .int .i64 (Lru.runErr c (([] ++ l) ++ m))) rfl) rfl rfl rfl (fun _ hw => HeapIs.drop hw (List.Sublist.cons _ (List.Sublist.cons _ (List.Sublist.cons _ (List.Sublist.cons_cons _ (List.Sublist.cons_cons _ (List.Sublist.cons_cons _ (List.Sublist.cons_cons _ (List.Sublist.cons_cons _ (List.Sublist.cons_cons _ (List.Sublist.slnil))))))))))) rfl ?_
            refine h_done (by kernel_rfl) ?_
            refine q_kont hK17 (a16_5, c16_5, S16_5, S16_6, a16_6, c16_6, B16_11) (Sub.cons rfl (Sub.cons rfl (Sub.cons rfl (Sub.cons rfl (Sub.cons rfl (Sub.cons rfl (Sub.cons rfl (Sub.nil _)))))))) (fun _ hw => HeapIs.pick hw [1, 0, 2, 3, 4, 5, 6, 7, 8] (by decide) rfl)
        · refine o_alloc ze24 rfl (fun B16_11 => ?_)
          refine o_nil ?_
          refine h_next (fun _ hw => HeapIs.drop hw (List.Sublist.cons _ (List.Sublist.cons _ (List.Sublist.cons_cons _ (List.Sublist.cons_cons _ (List.Sublist.cons_cons _ (List.Sublist.cons_cons _ (List.Sublist.cons_cons _ (List.Sublist.cons_cons _ (List.Sublist.slnil)))))))))) ?_
          refine h_one (i := 3) (ls := #[true, true, true, true, true, false, false, false, false, false, false, true, false, false, false]) (by kernel_rfl) rfl rfl ?_
          refine o_append (i := 1) (L := []) (M := l) (T := tInt) rfl rfl rfl (rd_base (i := 7) rfl hl) Try.underlying22 Try.underlying22 (by intro k h; cases h) el3 (by intro z; simp [tInt, one1]) (by decide) (by simp only [List.length_nil, List.length_append]; omega) rfl (fun a16_3 c16_3 S16_3 => ?_)
          refine o_nil ?_
          refine h_next (fun _ hw => HeapIs.drop hw (List.Sublist.cons _ (List.Sublist.cons _ (List.Sublist.cons_cons _ (List.Sublist.cons_cons _ (List.Sublist.cons_cons _ (List.Sublist.cons_cons _ (List.Sublist.cons_cons _ (List.Sublist.cons_cons _ (List.Sublist.slnil)))))))))) ?_
          refine h_one (i := 5) (ls := #[true, true, true, true, true, true, false, false, false, false, false, true, false, false, false]) (by kernel_rfl) rfl rfl ?_
          refine o_append (i := 1) (L := ([] ++ l)) (M := m) (T := tInt) rfl rfl rfl (rd_base (i := 7) rfl hm) Try.underlying22 Try.underlying22 (by intro k h; cases h) el3 (by intro z; simp [tInt, one1]) (by decide) (by simp only [List.length_nil, List.length_append]; omega) rfl (fun a16_5 c16_5 S16_5 => ?_)
          refine o_nil ?_
          refine h_next (fun _ hw => HeapIs.drop hw (List.Sublist.cons _ (List.Sublist.cons _ (List.Sublist.cons_cons _ (List.Sublist.cons_cons _ (List.Sublist.cons_cons _ (List.Sublist.cons_cons _ (List.Sublist.cons_cons _ (List.Sublist.cons_cons _ (List.Sublist.slnil)))))))))) ?_
          refine h_one (i := 6) (ls := #[true, true, true, true, true, true, true, false, false, false, false, true, false, false, false]) (by kernel_rfl) rfl rfl ?_
          refine o_callM rfl (lrun_ok c ac_0 cc_0 (([] ++ l) ++ m) a16_5 c16_5) hf15 (fun w hw => ⟨(rd_base (i := 7) rfl hc_0) w hw, (rd_own (i := 1) rfl) w hw⟩) rfl (fun _ _ _ _ ha hA => SlO.agree ha hA) ?_
          rintro ⟨a16_6, c16_6⟩ S16_6
          refine o_know (fun w hw => own_len (i := 0) (T := tInt) hw rfl) (fun hlr16_6 => ?_)
          refine o_nil ?_
          refine h_next (fun _ hw => HeapIs.drop hw (List.Sublist.cons _ (List.Sublist.cons _ (List.Sublist.cons _ (List.Sublist.cons_cons _ (List.Sublist.cons_cons _ (List.Sublist.cons_cons _ (List.Sublist.cons_cons _ (List.Sublist.cons_cons _ (List.Sublist.cons_cons _ (List.Sublist.slnil))))))))))) ?_
          refine h_take (i := 7) (ls := #[true, true, true, true, true, true, true, true, false, false, false, true, false, false, false]) rfl (by kernel_rfl) (by kernel_rfl) (by kernel_rfl) (fun _ _ _ h => h) (p_move (v := .tuple #[.agg #[.int .i64 (((Lru.run c (([] ++ l) ++ m)).1).room), .slice a16_6 (((Lru.run c (([] ++ l) ++ m)).1).keys).length c16_6], .int .i64 ((Lru.run c (([] ++ l) ++ m)).2), .int .i64 (Lru.runErr c (([] ++ l) ++ m))]) rfl) rfl rfl rfl (fun _ hw => HeapIs.drop hw (List.Sublist.cons _ (List.Sublist.cons _ (List.Sublist.cons _ (List.Sublist.cons_cons _ (List.Sublist.cons_cons _ (List.Sublist.cons_cons _ (List.Sublist.cons_cons _ (List.Sublist.cons_cons _ (List.Sublist.cons_cons _ (List.Sublist.slnil))))))))))) rfl ?_
          refine h_take (i := 8) (ls := #[true, true, true, true, true, true, true, true, true, false, false, true, false, false, false]) rfl (by kernel_rfl) (by kernel_rfl) (by kernel_rfl) (fun _ _ _ h => h) (p_extract (vs := [.agg #[.int .i64 (((Lru.run c (([] ++ l) ++ m)).1).room), .slice a16_6 (((Lru.run c (([] ++ l) ++ m)).1).keys).length c16_6], .int .i64 ((Lru.run c (([] ++ l) ++ m)).2), .int .i64 (Lru.runErr c (([] ++ l) ++ m))]) (v := .agg #[.int .i64 (((Lru.run c (([] ++ l) ++ m)).1).room), .slice a16_6 (((Lru.run c (([] ++ l) ++ m)).1).keys).length c16_6]) rfl rfl) rfl rfl rfl (fun _ hw => HeapIs.drop hw (List.Sublist.cons _ (List.Sublist.cons _ (List.Sublist.cons _ (List.Sublist.cons_cons _ (List.Sublist.cons_cons _ (List.Sublist.cons_cons _ (List.Sublist.cons_cons _ (List.Sublist.cons_cons _ (List.Sublist.cons_cons _ (List.Sublist.slnil))))))))))) rfl ?_
          refine h_take (i := 9) (ls := #[true, true, true, true, true, true, true, true, true, true, false, true, false, false, false]) rfl (by kernel_rfl) (by kernel_rfl) (by kernel_rfl) (fun _ _ _ h => h) (p_extract (vs := [.agg #[.int .i64 (((Lru.run c (([] ++ l) ++ m)).1).room), .slice a16_6 (((Lru.run c (([] ++ l) ++ m)).1).keys).length c16_6], .int .i64 ((Lru.run c (([] ++ l) ++ m)).2), .int .i64 (Lru.runErr c (([] ++ l) ++ m))]) (v := .int .i64 ((Lru.run c (([] ++ l) ++ m)).2)) rfl rfl) rfl rfl rfl (fun _ hw => HeapIs.drop hw (List.Sublist.cons _ (List.Sublist.cons _ (List.Sublist.cons _ (List.Sublist.cons_cons _ (List.Sublist.cons_cons _ (List.Sublist.cons_cons _ (List.Sublist.cons_cons _ (List.Sublist.cons_cons _ (List.Sublist.cons_cons _ (List.Sublist.slnil))))))))))) rfl ?_
          refine h_take (i := 10) (ls := #[true, true, true, true, true, true, true, true, true, true, true, true, false, false, false]) rfl (by kernel_rfl) (by kernel_rfl) (by kernel_rfl) (fun _ _ _ h => h) (p_extract (vs := [.agg #[.int .i64 (((Lru.run c (([] ++ l) ++ m)).1).room), .slice a16_6 (((Lru.run c (([] ++ l) ++ m)).1).keys).length c16_6], .int .i64 ((Lru.run c (([] ++ l) ++ m)).2), .int .i64 (Lru.runErr c (([] ++ l) ++ m))]) (v := .int .i64 (Lru.runErr c (([] ++ l) ++ m))) rfl rfl) rfl rfl rfl (fun _ hw => HeapIs.drop hw (List.Sublist.cons _ (List.Sublist.cons _ (List.Sublist.cons _ (List.Sublist.cons_cons _ (List.Sublist.cons_cons _ (List.Sublist.cons_cons _ (List.Sublist.cons_cons _ (List.Sublist.cons_cons _ (List.Sublist.cons_cons _ (List.Sublist.slnil))))))))))) rfl ?_
          refine h_one (i := 12) (ls := #[true, true, true, true, true, true, true, true, true, true, true, true, true, false, false]) (by kernel_rfl) rfl rfl ?_
          refine o_storeN (i := 1) (vs := [.int .i64 (((Lru.run c (([] ++ l) ++ m)).1).room), .slice a16_6 (((Lru.run c (([] ++ l) ++ m)).1).keys).length c16_6]) (cs' := [.int .i64 (((Lru.run c (([] ++ l) ++ m)).1).room), .slice a16_6 (((Lru.run c (([] ++ l) ++ m)).1).keys).length c16_6]) rfl rfl rfl sz24 rfl rfl rfl rfl ?_
          refine o_nil ?_
          refine h_next (fun _ hw => HeapIs.drop hw (List.Sublist.cons _ (List.Sublist.cons _ (List.Sublist.cons _ (List.Sublist.cons_cons _ (List.Sublist.cons_cons _ (List.Sublist.cons_cons _ (List.Sublist.cons_cons _ (List.Sublist.cons_cons _ (List.Sublist.cons_cons _ (List.Sublist.slnil))))))))))) ?_
          refine h_take (i := 13) (ls := #[true, true, true, true, true, true, true, true, true, true, true, true, true, true, false]) rfl (by kernel_rfl) (by kernel_rfl) (by kernel_rfl) (fun _ _ _ h => h) (p_assign (v := .int .i64 ((Lru.run c (([] ++ l) ++ m)).2)) rfl) rfl rfl rfl (fun _ hw => HeapIs.drop hw (List.Sublist.cons _ (List.Sublist.cons _ (List.Sublist.cons _ (List.Sublist.cons_cons _ (List.Sublist.cons_cons _ (List.Sublist.cons_cons _ (List.Sublist.cons_cons _ (List.Sublist.cons_cons _ (List.Sublist.cons_cons _ (List.Sublist.slnil))))))))))) rfl ?_
          refine h_take (i := 14) (ls := #[true, true, true, true, true, true, true, true, true, true, true, true, true, true, true]) rfl (by kernel_rfl) (by kernel_rfl) (by kernel_rfl) (fun _ _ _ h => h) (p_assign (v := .int .i64 (Lru.runErr c (([] ++ l) ++ m))) rfl) rfl rfl rfl (fun _ hw => HeapIs.drop hw (List.Sublist.cons _ (List.Sublist.cons _ (List.Sublist.cons _ (List.Sublist.cons_cons _ (List.Sublist.cons_cons _ (List.Sublist.cons_cons _ (List.Sublist.cons_cons _ (List.Sublist.cons_cons _ (List.Sublist.cons_cons _ (List.Sublist.slnil))))))))))) rfl ?_
          refine h_done (by kernel_rfl) ?_
          refine q_kont hK17 (a16_5, c16_5, S16_5, S16_6, a16_6, c16_6, B16_11) (Sub.cons rfl (Sub.cons rfl (Sub.cons rfl (Sub.cons rfl (Sub.cons rfl (Sub.cons rfl (Sub.cons rfl (Sub.nil _)))))))) (fun _ hw => HeapIs.pick hw [1, 0, 2, 3, 4, 5, 6, 7, 8] (by decide) rfl)
      · refine o_alloc ze24 rfl (fun B16_11 => ?_)
        refine o_nil ?_
        refine h_next (fun _ hw => HeapIs.drop hw (List.Sublist.cons _ (List.Sublist.cons_cons _ (List.Sublist.cons_cons _ (List.Sublist.cons_cons _ (List.Sublist.cons_cons _ (List.Sublist.cons_cons _ (List.Sublist.cons_cons _ (List.Sublist.slnil))))))))) ?_
        refine h_one (i := 1) (ls := #[true, true, true, false, true, false, false, false, false, false, false, true, false, false, false]) (by kernel_rfl) rfl rfl ?_
        refine o_buildSlice (m := 0) (T := tInt) (L := []) (vs := []) rfl rfl rfl rfl Try.underlying22 sz3 (by decide) ze3 rfl (by decide) rfl (fun S16_1 a16_1 => ?_)
        refine o_nil ?_
        refine h_next (fun _ hw => HeapIs.drop hw (List.Sublist.cons _ (List.Sublist.cons _ (List.Sublist.cons_cons _ (List.Sublist.cons_cons _ (List.Sublist.cons_cons _ (List.Sublist.cons_cons _ (List.Sublist.cons_cons _ (List.Sublist.cons_cons _ (List.Sublist.slnil)))))))))) ?_
        refine h_one (i := 3) (ls := #[true, true, true, true, true, false, false, false, false, false, false, true, false, false, false]) (by kernel_rfl) rfl rfl ?_
        refine o_append (i := 0) (L := []) (M := l) (T := tInt) rfl rfl rfl (rd_base (i := 7) rfl hl) Try.underlying22 Try.underlying22 (by intro k h; cases h) el3 (by intro z; simp [tInt, one1]) (by decide) (by simp only [List.length_nil, List.length_append]; omega) rfl (fun a16_3 c16_3 S16_3 => ?_)
        refine o_nil ?_
        refine h_next (fun _ hw => HeapIs.drop hw (List.Sublist.cons _ (List.Sublist.cons _ (List.Sublist.cons_cons _ (List.Sublist.cons_cons _ (List.Sublist.cons_cons _ (List.Sublist.cons_cons _ (List.Sublist.cons_cons _ (List.Sublist.cons_cons _ (List.Sublist.slnil)))))))))) ?_
        refine h_one (i := 5) (ls := #[true, true, true, true, true, true, false, false, false, false, false, true, false, false, false]) (by kernel_rfl) rfl rfl ?_
        refine o_append (i := 0) (L := ([] ++ l)) (M := m) (T := tInt) rfl rfl rfl (rd_base (i := 7) rfl hm) Try.underlying22 Try.underlying22 (by intro k h; cases h) el3 (by intro z; simp [tInt, one1]) (by decide) (by simp only [List.length_nil, List.length_append]; omega) rfl (fun a16_5 c16_5 S16_5 => ?_)
        refine o_nil ?_
        refine h_next (fun _ hw => HeapIs.drop hw (List.Sublist.cons _ (List.Sublist.cons _ (List.Sublist.cons_cons _ (List.Sublist.cons_cons _ (List.Sublist.cons_cons _ (List.Sublist.cons_cons _ (List.Sublist.cons_cons _ (List.Sublist.cons_cons _ (List.Sublist.slnil)))))))))) ?_
        refine h_one (i := 6) (ls := #[true, true, true, true, true, true, true, false, false, false, false, true, false, false, false]) (by kernel_rfl) rfl rfl ?_
        refine o_callM rfl (lrun_ok c ac_0 cc_0 (([] ++ l) ++ m) a16_5 c16_5) hf15 (fun w hw => ⟨(rd_base (i := 7) rfl hc_0) w hw, (rd_own (i := 0) rfl) w hw⟩) rfl (fun _ _ _ _ ha hA => SlO.agree ha hA) ?_
        rintro ⟨a16_6, c16_6⟩ S16_6
        refine o_know (fun w hw => own_len (i := 0) (T := tInt) hw rfl) (fun hlr16_6 => ?_)
        refine o_nil ?_
        refine h_next (fun _ hw => HeapIs.drop hw (List.Sublist.cons _ (List.Sublist.cons _ (List.Sublist.cons _ (List.Sublist.cons_cons _ (List.Sublist.cons_cons _ (List.Sublist.cons_cons _ (List.Sublist.cons_cons _ (List.Sublist.cons_cons _ (List.Sublist.cons_cons _ (List.Sublist.slnil))))))))))) ?_
        refine h_take (i := 7) (ls := #[true, true, true, true, true, true, true, true, false, false, false, true, false, false, false]) rfl (by kernel_rfl) (by kernel_rfl) (by kernel_rfl) (fun _ _ _ h => h) (p_move (v := .tuple #[.agg #[.int .i64 (((Lru.run c (([] ++ l) ++ m)).1).room), .slice a16_6 (((Lru.run c (([] ++ l) ++ m)).1).keys).length c16_6], .int .i64 ((Lru.run c (([] ++ l) ++ m)).2), .int .i64 (Lru.runErr c (([] ++ l) ++ m))]) rfl) rfl rfl rfl (fun _ hw => HeapIs.drop hw (List.Sublist.cons _ (List.Sublist.cons _ (List.Sublist.cons _ (List.Sublist.cons_cons _ (List.Sublist.cons_cons _ (List.Sublist.cons_cons _ (List.Sublist.cons_cons _ (List.Sublist.cons_cons _ (List.Sublist.cons_cons _ (List.Sublist.slnil))))))))))) rfl ?_
        refine h_take (i := 8) (ls := #[true, true, true, true, true, true, true, true, true, false, false, true, false, false, false]) rfl (by kernel_rfl) (by kernel_rfl) (by kernel_rfl) (fun _ _ _ h => h) (p_extract (vs := [.agg #[.int .i64 (((Lru.run c (([] ++ l) ++ m)).1).room), .slice a16_6 (((Lru.run c (([] ++ l) ++ m)).1).keys).length c16_6], .int .i64 ((Lru.run c (([] ++ l) ++ m)).2), .int .i64 (Lru.runErr c (([] ++ l) ++ m))]) (v := .agg #[.int .i64 (((Lru.run c (([] ++ l) ++ m)).1).room), .slice a16_6 (((Lru.run c (([] ++ l) ++ m)).1).keys).length c16_6]) rfl rfl) rfl rfl rfl (fun _ hw => HeapIs.drop hw (List.Sublist.cons _ (List.Sublist.cons _ (List.Sublist.cons _ (List.Sublist.cons_cons _ (List.Sublist.cons_cons _ (List.Sublist.cons_cons _ (List.Sublist.cons_cons _ (List.Sublist.cons_cons _ (List.Sublist.cons_cons _ (List.Sublist.slnil))))))))))) rfl ?_
        refine h_take (i := 9) (ls := #[true, true, true, true, true, true, true, true, true, true, false, true, false, false, false]) rfl (by kernel_rfl) (by kernel_rfl) (by kernel_rfl) (fun _ _ _ h => h) (p_extract (vs := [.agg #[.int .i64 (((Lru.run c (([] ++ l) ++ m)).1).room), .slice a16_6 (((Lru.run c (([] ++ l) ++ m)).1).keys).length c16_6], .int .i64 ((Lru.run c (([] ++ l) ++ m)).2), .int .i64 (Lru.runErr c (([] ++ l) ++ m))]) (v := .int .i64 ((Lru.run c (([] ++ l) ++ m)).2)) rfl rfl) rfl rfl rfl (fun _ hw => HeapIs.drop hw (List.Sublist.cons _ (List.Sublist.cons _ (List.Sublist.cons _ (List.Sublist.cons_cons _ (List.Sublist.cons_cons _ (List.Sublist.cons_cons _ (List.Sublist.cons_cons _ (List.Sublist.cons_cons _ (List.Sublist.cons_cons _ (List.Sublist.slnil))))))))))) rfl ?_
        refine h_take (i := 10) (ls := #[true, true, true, true, true, true, true, true, true, true, true, true, false, false, false]) rfl (by kernel_rfl) (by kernel_rfl) (by kernel_rfl) (fun _ _ _ h => h) (p_extract (vs := [.agg #[.int .i64 (((Lru.run c (([] ++ l) ++ m)).1).room), .slice a16_6 (((Lru.run c (([] ++ l) ++ m)).1).keys).length c16_6], .int .i64 ((Lru.run c (([] ++ l) ++ m)).2), .int .i64 (Lru.runErr c (([] ++ l) ++ m))]) (v := .int .i64 (Lru.runErr c (([] ++ l) ++ m))) rfl rfl) rfl rfl rfl (fun _ hw => HeapIs.drop hw (List.Sublist.cons _ (List.Sublist.cons _ (List.Sublist.cons _ (List.Sublist.cons_cons _ (List.Sublist.cons_cons _ (List.Sublist.cons_cons _ (List.Sublist.cons_cons _ (List.Sublist.cons_cons _ (List.Sublist.cons_cons _ (List.Sublist.slnil))))))))))) rfl ?_
        refine h_one (i := 12) (ls := #[true, true, true, true, true, true, true, true, true, true, true, true, true, false, false]) (by kernel_rfl) rfl rfl ?_
        refine o_storeN (i := 2) (vs := [.int .i64 (((Lru.run c (([] ++ l) ++ m)).1).room), .slice a16_6 (((Lru.run c (([] ++ l) ++ m)).1).keys).length c16_6]) (cs' := [.int .i64 (((Lru.run c (([] ++ l) ++ m)).1).room), .slice a16_6 (((Lru.run c (([] ++ l) ++ m)).1).keys).length c16_6]) rfl rfl rfl sz24 rfl rfl rfl rfl ?_
        refine o_nil ?_
        refine h_next (fun _ hw => HeapIs.drop hw (List.Sublist.cons _ (List.Sublist.cons _ (List.Sublist.cons _ (List.Sublist.cons_cons _ (List.Sublist.cons_cons _ (List.Sublist.cons_cons _ (List.Sublist.cons_cons _ (List.Sublist.cons_cons _ (List.Sublist.cons_cons _ (List.Sublist.slnil))))))))))) ?_
        refine h_take (i := 13) (ls := #[true, true, true, true, true, true, true, true, true, true, true, true, true, true, false]) rfl (by kernel_rfl) (by kernel_rfl) (by kernel_rfl) (fun _ _ _ h => h) (p_assign (v := .int .i64 ((Lru.run c (([] ++ l) ++ m)).2)) rfl) rfl rfl rfl (fun _ hw => HeapIs.drop hw (List.Sublist.cons _ (List.Sublist.cons _ (List.Sublist.cons _ (List.Sublist.cons_cons _ (List.Sublist.cons_cons _ (List.Sublist.cons_cons _ (List.Sublist.cons_cons _ (List.Sublist.cons_cons _ (List.Sublist.cons_cons _ (List.Sublist.slnil))))))))))) rfl ?_
        refine h_take (i := 14) (ls := #[true, true, true, true, true, true, true, true, true, true, true, true, true, true, true]) rfl (by kernel_rfl) (by kernel_rfl) (by kernel_rfl) (fun _ _ _ h => h) (p_assign (v := .int .i64 (Lru.runErr c (([] ++ l) ++ m))) rfl) rfl rfl rfl (fun _ hw => HeapIs.drop hw (List.Sublist.cons _ (List.Sublist.cons _ (List.Sublist.cons _ (List.Sublist.cons_cons _ (List.Sublist.cons_cons _ (List.Sublist.cons_cons _ (List.Sublist.cons_cons _ (List.Sublist.cons_cons _ (List.Sublist.cons_cons _ (List.Sublist.slnil))))))))))) rfl ?_
        refine h_done (by kernel_rfl) ?_
        refine q_kont hK17 (a16_5, c16_5, S16_5, S16_6, a16_6, c16_6, B16_11) (Sub.cons rfl (Sub.cons rfl (Sub.cons rfl (Sub.cons rfl (Sub.cons rfl (Sub.cons rfl (Sub.cons rfl (Sub.nil _)))))))) (fun _ hw => HeapIs.pick hw [2, 0, 1, 3, 4, 5, 6, 7, 8] (by decide) rfl)
    rintro ⟨a16_5, c16_5, S16_5, S16_6, a16_6, c16_6, B16_11⟩
    show SQ _ 76 w0 _ _ [(8, .int .i64 ((Lru.run c l).2)), (10, .pointer (some ⟨B15, 0, none⟩)), (11, .int .i64 ((Lru.run ((Lru.run c l).1) m).2)), (12, .int .i64 (Lru.runErr ((Lru.run c l).1) m)), (13, .pointer (some ⟨B16_11, 0, none⟩)), (14, .int .i64 ((Lru.run c (([] ++ l) ++ m)).2)), (15, .int .i64 (Lru.runErr c (([] ++ l) ++ m)))] [box B16_11 [.int .i64 (((Lru.run c (([] ++ l) ++ m)).1).room), .slice a16_6 (((Lru.run c (([] ++ l) ++ m)).1).keys).length c16_6] 24, own tInt S16_6 a16_6 c16_6 (((Lru.run c (([] ++ l) ++ m)).1).keys), own tInt S16_5 a16_5 c16_5 (([] ++ l) ++ m), box B15 [.int .i64 (((Lru.run ((Lru.run c l).1) m).1).room), .slice a12 (((Lru.run ((Lru.run c l).1) m).1).keys).length c13] 24, own tInt S10 a12 c13 (((Lru.run ((Lru.run c l).1) m).1).keys), box B7 [.int .i64 (((Lru.run c l).1).room), .slice a4 (((Lru.run c l).1).keys).length c5] 24, own tInt S2 a4 c5 (((Lru.run c l).1).keys), box B1 [.int .i64 c.room, .slice ac_0 c.keys.length cc_0] 24, base w0]
    refine q_know (fun w hw => own_len (i := 1) (T := tInt) hw rfl) (fun hlr18 => ?_)
    refine q_then ?_
    refine c_seq ?_
    refine c_seq ?_
    refine c_region ?_
    refine o_pure (p_move (v := .int .i64 (Lru.runErr ((Lru.run c l).1) m)) rfl) rfl rfl rfl ?_
    refine o_pure (p_ne (p := (Lru.runErr ((Lru.run c l).1) m)) (q := 0) rfl rfl) rfl rfl rfl ?_
    refine o_pure (p_move (v := .bool ((Lru.runErr ((Lru.run c l).1) m) != 0)) rfl) rfl rfl rfl ?_
    refine o_or (p := 58) 3 ((Lru.runErr c (([] ++ l) ++ m)) != 0) ?_ ?_ ?_
    · intro hb19 hk
      simp only [bne_eq_false_iff_eq] at hb19
      refine o_unguard 55 rfl rfl ?_
      refine o_pure (p_move (v := .int .i64 (Lru.runErr c (([] ++ l) ++ m))) rfl) rfl rfl rfl ?_
      refine o_unguard 55 rfl rfl ?_
      refine o_pure (p_ne (p := (Lru.runErr c (([] ++ l) ++ m))) (q := 0) rfl rfl) rfl rfl rfl ?_
      refine o_pure (p_pick_false (v := .bool ((Lru.runErr c (([] ++ l) ++ m)) != 0)) rfl rfl) rfl rfl rfl ?_
      exact o_sub (Sub.cons rfl (Sub.skip rfl (Sub.skip rfl (Sub.skip rfl (Sub.skip rfl (Sub.refl _)))))) hk
    · intro hb19 hk
      refine o_guard_no rfl 55 rfl rfl rfl rfl rfl ?_
      refine o_guard_no rfl 55 rfl rfl rfl rfl rfl ?_
      refine o_pure (p_pick_true (u := .bool true) rfl rfl) rfl rfl rfl ?_
      exact o_sub (Sub.cons rfl (Sub.skip rfl (Sub.skip rfl (Sub.skip rfl (Sub.skip rfl (Sub.refl _)))))) hk
    refine o_nil ?_
    refine q_then ?_
    refine c_cond (b := (((Lru.runErr ((Lru.run c l).1) m) != 0) || ((Lru.runErr c (([] ++ l) ++ m)) != 0))) rfl (fun hc20 => ?_) (fun hc20 => ?_)
    · simp only [Bool.or_eq_true, bne_iff_ne, ne_eq] at hc20
      refine c_seq ?_
      refine c_region ?_
      refine o_pure (p_move (v := .int .i64 (Lru.runErr ((Lru.run c l).1) m)) rfl) rfl rfl rfl ?_
      refine o_pure (p_move (v := .int .i64 (Lru.runErr c (([] ++ l) ++ m))) rfl) rfl rfl rfl ?_
      refine o_pure (p_eq (p := (Lru.runErr ((Lru.run c l).1) m)) (q := (Lru.runErr c (([] ++ l) ++ m))) rfl rfl) rfl rfl rfl ?_
      refine o_pure (p_move (v := .bool ((Lru.runErr ((Lru.run c l).1) m) == (Lru.runErr c (([] ++ l) ++ m)))) rfl) rfl rfl rfl ?_
      refine o_or (p := 65) 3 ((Lru.runErr c (([] ++ l) ++ m)) == 2) ?_ ?_ ?_
      · intro hb21 hk
        simp only [beq_eq_false_iff_ne, ne_eq] at hb21
        refine o_unguard 62 rfl rfl ?_
        refine o_pure (p_move (v := .int .i64 (Lru.runErr c (([] ++ l) ++ m))) rfl) rfl rfl rfl ?_
        refine o_unguard 62 rfl rfl ?_
        refine o_pure (p_eq (p := (Lru.runErr c (([] ++ l) ++ m))) (q := 2) rfl rfl) rfl rfl rfl ?_
        refine o_pure (p_pick_false (v := .bool ((Lru.runErr c (([] ++ l) ++ m)) == 2)) rfl rfl) rfl rfl rfl ?_
        exact o_sub (Sub.cons rfl (Sub.skip rfl (Sub.skip rfl (Sub.skip rfl (Sub.skip rfl (Sub.refl _)))))) hk
      · intro hb21 hk
        refine o_guard_no rfl 62 rfl rfl rfl rfl rfl ?_
        refine o_guard_no rfl 62 rfl rfl rfl rfl rfl ?_
        refine o_pure (p_pick_true (u := .bool true) rfl rfl) rfl rfl rfl ?_
        exact o_sub (Sub.cons rfl (Sub.skip rfl (Sub.skip rfl (Sub.skip rfl (Sub.skip rfl (Sub.refl _)))))) hk
      refine o_pure (p_assign (v := .bool (((Lru.runErr ((Lru.run c l).1) m) == (Lru.runErr c (([] ++ l) ++ m))) || ((Lru.runErr c (([] ++ l) ++ m)) == 2))) rfl) rfl rfl rfl ?_
      refine o_nil ?_
      refine q_then ?_
      refine c_ret ?_
      refine q_then_ret ?_
      have hr0 : ((((Lru.runErr ((Lru.run c l).1) m) == (Lru.runErr c (([] ++ l) ++ m))) || ((Lru.runErr c (([] ++ l) ++ m)) == 2)) : Bool) = true := by
        first | exact Lru.parts_bool3 (by assumption) | exact Lru.parts_bool2 (by assumption) | exact Lru.parts_bool (by assumption) (by omega) (by omega)
      refine q_end0 (v := .bool (((Lru.runErr ((Lru.run c l).1) m) == (Lru.runErr c (([] ++ l) ++ m))) || ((Lru.runErr c (([] ++ l) ++ m)) == 2))) (rt1 rfl (r_tmp rfl)) (i := 8) rfl ?_
      exact (by have hcc := congrArg (fun (y0 : Bool) => (.bool y0 : Value)) hr0; exact hcc)
    · simp only [Bool.or_eq_false_iff, bne_eq_false_iff_eq] at hc20
      refine c_skip ?_
      refine q_then ?_
      refine c_seq ?_
      refine c_region ?_
      refine o_pure (p_load_agg (i := 3) (vs := [.int .i64 (((Lru.run ((Lru.run c l).1) m).1).room), .slice a12 (((Lru.run ((Lru.run c l).1) m).1).keys).length c13]) rfl rfl sh24 rfl rfl) rfl rfl rfl ?_
      refine o_pure (p_load_agg (i := 0) (vs := [.int .i64 (((Lru.run c (([] ++ l) ++ m)).1).room), .slice a16_6 (((Lru.run c (([] ++ l) ++ m)).1).keys).length c16_6]) rfl rfl sh24 rfl rfl) rfl rfl rfl ?_
      refine o_call0 (v := .bool (decide (((Lru.run ((Lru.run c l).1) m).1) = ((Lru.run c (([] ++ l) ++ m)).1)))) rfl (sameCache_ok ((Lru.run ((Lru.run c l).1) m).1) a12 c13 ((Lru.run c (([] ++ l) ++ m)).1) a16_6 c16_6) hf18 (fun w hw => ⟨(rd_own (i := 4) rfl) w hw, (rd_own (i := 1) rfl) w hw⟩) rfl ?_
      refine o_pure (p_move (v := .bool (decide (((Lru.run ((Lru.run c l).1) m).1) = ((Lru.run c (([] ++ l) ++ m)).1)))) rfl) rfl rfl rfl ?_
      refine o_and (p := 75) 6 (((Lru.run c (([] ++ l) ++ m)).2) == (IntKind.i64.wrap (((Lru.run c l).2) + ((Lru.run ((Lru.run c l).1) m).2)))) ?_ ?_ ?_
      · intro hb22 hk
        simp only [decide_eq_true_eq] at hb22
        refine o_unguard 69 rfl rfl ?_
        refine o_pure (p_move (v := .int .i64 ((Lru.run c (([] ++ l) ++ m)).2)) rfl) rfl rfl rfl ?_
        refine o_unguard 69 rfl rfl ?_
        refine o_pure (p_move (v := .int .i64 ((Lru.run c l).2)) rfl) rfl rfl rfl ?_
        refine o_unguard 69 rfl rfl ?_
        refine o_pure (p_move (v := .int .i64 ((Lru.run ((Lru.run c l).1) m).2)) rfl) rfl rfl rfl ?_
        refine o_unguard 69 rfl rfl ?_
        refine o_pure (p_add (p := ((Lru.run c l).2)) (q := ((Lru.run ((Lru.run c l).1) m).2)) rfl rfl) rfl rfl rfl ?_
        refine o_unguard 69 rfl rfl ?_
        refine o_pure (p_eq (p := ((Lru.run c (([] ++ l) ++ m)).2)) (q := (IntKind.i64.wrap (((Lru.run c l).2) + ((Lru.run ((Lru.run c l).1) m).2)))) rfl rfl) rfl rfl rfl ?_
        refine o_pure (p_pick_true (u := .bool (((Lru.run c (([] ++ l) ++ m)).2) == (IntKind.i64.wrap (((Lru.run c l).2) + ((Lru.run ((Lru.run c l).1) m).2))))) rfl rfl) rfl rfl rfl ?_
        exact o_sub (Sub.cons rfl (Sub.skip rfl (Sub.skip rfl (Sub.skip rfl (Sub.skip rfl (Sub.skip rfl (Sub.skip rfl (Sub.skip rfl (Sub.refl _))))))))) hk
      · intro hb22 hk
        refine o_guard_no rfl 69 rfl rfl rfl rfl rfl ?_
        refine o_guard_no rfl 69 rfl rfl rfl rfl rfl ?_
        refine o_guard_no rfl 69 rfl rfl rfl rfl rfl ?_
        refine o_guard_no rfl 69 rfl rfl rfl rfl rfl ?_
        refine o_guard_no rfl 69 rfl rfl rfl rfl rfl ?_
        refine o_pure (p_pick_false (v := .bool false) rfl rfl) rfl rfl rfl ?_
        exact o_sub (Sub.cons rfl (Sub.skip rfl (Sub.skip rfl (Sub.skip rfl (Sub.skip rfl (Sub.skip rfl (Sub.skip rfl (Sub.skip rfl (Sub.refl _))))))))) hk
      refine o_pure (p_assign (v := .bool ((decide (((Lru.run ((Lru.run c l).1) m).1) = ((Lru.run c (([] ++ l) ++ m)).1))) && (((Lru.run c (([] ++ l) ++ m)).2) == (IntKind.i64.wrap (((Lru.run c l).2) + ((Lru.run ((Lru.run c l).1) m).2)))))) rfl) rfl rfl rfl ?_
      refine o_nil ?_
      refine q_then ?_
      refine c_ret ?_
      have hr0 : (((decide (((Lru.run ((Lru.run c l).1) m).1) = ((Lru.run c (([] ++ l) ++ m)).1))) && (((Lru.run c (([] ++ l) ++ m)).2) == (IntKind.i64.wrap (((Lru.run c l).2) + ((Lru.run ((Lru.run c l).1) m).2))))) : Bool) = true := by
        first | exact Lru.parts_bool3 (by assumption) | exact Lru.parts_bool2 (by assumption) | exact Lru.parts_bool (by assumption) (by omega) (by omega)
      refine q_end0 (v := .bool ((decide (((Lru.run ((Lru.run c l).1) m).1) = ((Lru.run c (([] ++ l) ++ m)).1))) && (((Lru.run c (([] ++ l) ++ m)).2) == (IntKind.i64.wrap (((Lru.run c l).2) + ((Lru.run ((Lru.run c l).1) m).2)))))) (rt1 rfl (r_tmp rfl)) (i := 8) rfl ?_
      exact (by have hcc := congrArg (fun (y0 : Bool) => (.bool y0 : Value)) hr0; exact hcc)
end Go.Proofs.Ythbfdhphnofacad
