/- The walks, printed by a program from the translation and a specification. -/
import Derived.Test.YtagbihjkdejdjaaLfF
import Derived.Test.YtagbihjkdejdjaaLfLaw5
import Derived.Test.YtagbihjkdejdjaaLfW14
namespace Go.Proofs.Ytagbihjkdejdjaa
open Go.Sx Go.RowKit
set_option maxHeartbeats 8000000 in
set_option maxRecDepth 100000 in
theorem lfuParts_ok (u : DUses) (au_0 : Option Addr) (cu_0 : Nat) (l : List Int) (al : Option Addr) (cl : Nat) (m : List Int) (am : Option Addr) (cm : Nat) (hy1 : m.length ≤ 17592186044416) : Fn0 Try.prog 6 [.agg #[.int .i64 u.room, .slice au_0 u.list.length cu_0], .slice al l.length cl, .slice am m.length cm] (fun w => Rd tUse w au_0 cu_0 u.list ∧ Rd tInt w al cl l ∧ Rd tInt w am cm m) (.bool true) := by
  refine fn0 (nt := 132) (F0 := [(0, .agg #[.int .i64 u.room, .slice au_0 u.list.length cu_0]), (1, .slice al l.length cl), (2, .slice am m.length cm)]) Try.func6 rfl Try.ntmps6 rfl rfl (fun w0 hpre => ?_)
  obtain ⟨hu_0, hl, hm⟩ := hpre
  have hlhu_0 := hu_0.2.1
  have hlhl := hl.2.1
  have hlhm := hm.2.1
  refine c_seq ?_
  refine c_region ?_
  refine o_box (v := .agg #[.int .i64 u.room, .slice au_0 u.list.length cu_0]) rfl rfl (fun B1 => ?_)
  refine o_pure (p_assign (v := .bool false) rfl) rfl rfl rfl ?_
  refine o_nil ?_
  refine q_then ?_
  refine c_seq ?_
  refine c_region ?_
  refine o_pure (p_load_agg (i := 0) (vs := [.int .i64 u.room, .slice au_0 u.list.length cu_0]) rfl rfl sh24 rfl rfl) rfl rfl rfl ?_
  refine o_pure (p_move (v := .slice al l.length cl) rfl) rfl rfl rfl ?_
  refine o_callM rfl (frun_ok u au_0 cu_0 l al cl) hf16 (fun w hw => ⟨(rd_base (i := 1) rfl hu_0) w hw, (rd_base (i := 1) rfl hl) w hw⟩) rfl (fun _ _ _ _ ha hA => SlO.agree ha hA) ?_
  rintro ⟨a4, c5⟩ S2
  refine o_know (fun w hw => own_len (i := 0) (T := tUse) hw rfl) (fun hlr6 => ?_)
  refine o_pure (p_move (v := .tuple #[.agg #[.int .i64 (((Lfu.run u l).1).room), .slice a4 (((Lfu.run u l).1).list).length c5], .int .i64 ((Lfu.run u l).2), .int .i64 (Lfu.runErr u l)]) rfl) rfl rfl rfl ?_
  refine o_pure (p_extract (vs := [.agg #[.int .i64 (((Lfu.run u l).1).room), .slice a4 (((Lfu.run u l).1).list).length c5], .int .i64 ((Lfu.run u l).2), .int .i64 (Lfu.runErr u l)]) (v := .agg #[.int .i64 (((Lfu.run u l).1).room), .slice a4 (((Lfu.run u l).1).list).length c5]) rfl rfl) rfl rfl rfl ?_
  refine o_pure (p_extract (vs := [.agg #[.int .i64 (((Lfu.run u l).1).room), .slice a4 (((Lfu.run u l).1).list).length c5], .int .i64 ((Lfu.run u l).2), .int .i64 (Lfu.runErr u l)]) (v := .int .i64 ((Lfu.run u l).2)) rfl rfl) rfl rfl rfl ?_
  refine o_pure (p_extract (vs := [.agg #[.int .i64 (((Lfu.run u l).1).room), .slice a4 (((Lfu.run u l).1).list).length c5], .int .i64 ((Lfu.run u l).2), .int .i64 (Lfu.runErr u l)]) (v := .int .i64 (Lfu.runErr u l)) rfl rfl) rfl rfl rfl ?_
  refine o_alloc ze24 rfl (fun B7 => ?_)
  refine o_storeN (i := 0) (vs := [.int .i64 (((Lfu.run u l).1).room), .slice a4 (((Lfu.run u l).1).list).length c5]) (cs' := [.int .i64 (((Lfu.run u l).1).room), .slice a4 (((Lfu.run u l).1).list).length c5]) rfl rfl rfl sz24 rfl rfl rfl rfl ?_
  refine o_pure (p_assign (v := .int .i64 ((Lfu.run u l).2)) rfl) rfl rfl rfl ?_
  refine o_pure (p_assign (v := .int .i64 (Lfu.runErr u l)) rfl) rfl rfl rfl ?_
  refine o_nil ?_
  refine q_then ?_
  refine c_seq ?_
  refine c_seq ?_
  refine c_region ?_
  refine o_call0 (v := .bool true) rfl (lfuBegun_ok ) hf24 (fun _ _ => trivial) rfl ?_
  refine o_pure (p_not (b := true) rfl) rfl rfl rfl ?_
  refine o_nil ?_
  refine q_then ?_
  refine c_false rfl ?_
  refine c_skip ?_
  refine q_then ?_
  refine c_seq ?_
  refine c_seq ?_
  refine c_region ?_
  refine o_pure (p_move (v := .int .i64 (Lfu.runErr u l)) rfl) rfl rfl rfl ?_
  refine o_pure (p_ne (p := (Lfu.runErr u l)) (q := 0) rfl rfl) rfl rfl rfl ?_
  refine o_nil ?_
  refine q_then ?_
  refine c_cond (b := ((Lfu.runErr u l) != 0)) rfl (fun hc8 => ?_) (fun hc8 => ?_)
  · simp only [bne_iff_ne, ne_eq] at hc8
    refine c_seq ?_
    refine c_region ?_
    refine o_pure (p_move (v := .int .i64 ((Lfu.run u l).2)) rfl) rfl rfl rfl ?_
    refine o_pure (p_eq (p := ((Lfu.run u l).2)) (q := 0) rfl rfl) rfl rfl rfl ?_
    refine o_pure (p_move (v := .bool (((Lfu.run u l).2) == 0)) rfl) rfl rfl rfl ?_
    refine o_and (p := 37) 5 (((((Lfu.run u l).1).list).length : Int) == 0) ?_ ?_ ?_
    · intro hb9 hk
      simp only [beq_iff_eq] at hb9
      refine o_unguard 32 rfl rfl ?_
      refine o_pure (p_fieldAddr (B := B7) (j := 0) (j' := 1) rfl fo24_1 rfl) rfl rfl rfl ?_
      refine o_unguard 32 rfl rfl ?_
      refine o_pure (p_load (i := 0) (v := .slice a4 (((Lfu.run u l).1).list).length c5) rfl rfl sh22 rfl) rfl rfl rfl ?_
      refine o_unguard 32 rfl rfl ?_
      refine o_pure (p_len_slice (len := (((Lfu.run u l).1).list).length) rfl rfl Try.underlying22) rfl rfl rfl ?_
      refine o_unguard 32 rfl rfl ?_
      refine o_pure (p_eq (p := ((((Lfu.run u l).1).list).length : Int)) (q := 0) rfl rfl) rfl rfl rfl ?_
      refine o_pure (p_pick_true (u := .bool (((((Lfu.run u l).1).list).length : Int) == 0)) rfl rfl) rfl rfl rfl ?_
      exact o_sub (Sub.cons rfl (Sub.skip rfl (Sub.skip rfl (Sub.skip rfl (Sub.skip rfl (Sub.skip rfl (Sub.skip rfl (Sub.refl _)))))))) hk
    · intro hb9 hk
      refine o_guard_no rfl 32 rfl rfl rfl rfl rfl ?_
      refine o_guard_no rfl 32 rfl rfl rfl rfl rfl ?_
      refine o_guard_no rfl 32 rfl rfl rfl rfl rfl ?_
      refine o_guard_no rfl 32 rfl rfl rfl rfl rfl ?_
      refine o_pure (p_pick_false (v := .bool false) rfl rfl) rfl rfl rfl ?_
      exact o_sub (Sub.cons rfl (Sub.skip rfl (Sub.skip rfl (Sub.skip rfl (Sub.skip rfl (Sub.skip rfl (Sub.skip rfl (Sub.refl _)))))))) hk
    refine o_pure (p_assign (v := .bool ((((Lfu.run u l).2) == 0) && (((((Lfu.run u l).1).list).length : Int) == 0))) rfl) rfl rfl rfl ?_
    refine o_nil ?_
    refine q_then ?_
    refine c_ret ?_
    refine q_then_ret ?_
    have hr0 : (((((Lfu.run u l).2) == 0) && (((((Lfu.run u l).1).list).length : Int) == 0)) : Bool) = true := by
      first | exact Lfu.parts_bool3 (by assumption) | exact Lfu.parts_bool2 (by assumption) | (exfalso; have h9 := hag.2 i (by omega) (by omega); omega) | (have hw := wrap_i64 (z := (Lfu.run u l).2 + (Lfu.run (Lfu.run u l).1 m).2) (by omega); rw [hw, hp2, hp3, hp1]; simp; done)
    refine q_end0 (v := .bool ((((Lfu.run u l).2) == 0) && (((((Lfu.run u l).1).list).length : Int) == 0))) (rt1 rfl (r_tmp rfl)) (i := 3) rfl ?_
    exact (by have hcc := congrArg (fun (y0 : Bool) => (.bool y0 : Value)) hr0; exact hcc)
  · simp only [bne_eq_false_iff_eq] at hc8
    have hrun := hc8
    have hsm := Lfu.run_small hc8
    refine c_skip ?_
    refine q_then ?_
    refine c_seq ?_
    refine c_region ?_
    refine o_pure (p_load_agg (i := 0) (vs := [.int .i64 (((Lfu.run u l).1).room), .slice a4 (((Lfu.run u l).1).list).length c5]) rfl rfl sh24 rfl rfl) rfl rfl rfl ?_
    refine o_pure (p_move (v := .slice am m.length cm) rfl) rfl rfl rfl ?_
    refine o_callM rfl (frun_ok ((Lfu.run u l).1) a4 c5 m am cm) hf16 (fun w hw => ⟨(rd_own (i := 1) rfl) w hw, (rd_base (i := 3) rfl hm) w hw⟩) rfl (fun _ _ _ _ ha hA => SlO.agree ha hA) ?_
    rintro ⟨a12, c13⟩ S10
    refine o_know (fun w hw => own_len (i := 0) (T := tUse) hw rfl) (fun hlr14 => ?_)
    refine o_pure (p_move (v := .tuple #[.agg #[.int .i64 (((Lfu.run ((Lfu.run u l).1) m).1).room), .slice a12 (((Lfu.run ((Lfu.run u l).1) m).1).list).length c13], .int .i64 ((Lfu.run ((Lfu.run u l).1) m).2), .int .i64 (Lfu.runErr ((Lfu.run u l).1) m)]) rfl) rfl rfl rfl ?_
    refine o_pure (p_extract (vs := [.agg #[.int .i64 (((Lfu.run ((Lfu.run u l).1) m).1).room), .slice a12 (((Lfu.run ((Lfu.run u l).1) m).1).list).length c13], .int .i64 ((Lfu.run ((Lfu.run u l).1) m).2), .int .i64 (Lfu.runErr ((Lfu.run u l).1) m)]) (v := .agg #[.int .i64 (((Lfu.run ((Lfu.run u l).1) m).1).room), .slice a12 (((Lfu.run ((Lfu.run u l).1) m).1).list).length c13]) rfl rfl) rfl rfl rfl ?_
    refine o_pure (p_extract (vs := [.agg #[.int .i64 (((Lfu.run ((Lfu.run u l).1) m).1).room), .slice a12 (((Lfu.run ((Lfu.run u l).1) m).1).list).length c13], .int .i64 ((Lfu.run ((Lfu.run u l).1) m).2), .int .i64 (Lfu.runErr ((Lfu.run u l).1) m)]) (v := .int .i64 ((Lfu.run ((Lfu.run u l).1) m).2)) rfl rfl) rfl rfl rfl ?_
    refine o_pure (p_extract (vs := [.agg #[.int .i64 (((Lfu.run ((Lfu.run u l).1) m).1).room), .slice a12 (((Lfu.run ((Lfu.run u l).1) m).1).list).length c13], .int .i64 ((Lfu.run ((Lfu.run u l).1) m).2), .int .i64 (Lfu.runErr ((Lfu.run u l).1) m)]) (v := .int .i64 (Lfu.runErr ((Lfu.run u l).1) m)) rfl rfl) rfl rfl rfl ?_
    refine o_alloc ze24 rfl (fun B15 => ?_)
    refine o_storeN (i := 0) (vs := [.int .i64 (((Lfu.run ((Lfu.run u l).1) m).1).room), .slice a12 (((Lfu.run ((Lfu.run u l).1) m).1).list).length c13]) (cs' := [.int .i64 (((Lfu.run ((Lfu.run u l).1) m).1).room), .slice a12 (((Lfu.run ((Lfu.run u l).1) m).1).list).length c13]) rfl rfl rfl sz24 rfl rfl rfl rfl ?_
    refine o_pure (p_assign (v := .int .i64 ((Lfu.run ((Lfu.run u l).1) m).2)) rfl) rfl rfl rfl ?_
    refine o_pure (p_assign (v := .int .i64 (Lfu.runErr ((Lfu.run u l).1) m)) rfl) rfl rfl rfl ?_
    refine o_nil ?_
    refine q_then ?_
    refine c_seq ?_
    refine c_cut (G := Option Addr × Nat × (Nat → Prop) × (Nat → Prop) × Option Addr × Nat × Nat) (fun ⟨a16_5, c16_5, S16_5, S16_6, a16_6, c16_6, B16_11⟩ => [(8, .int .i64 ((Lfu.run u l).2)), (10, .pointer (some ⟨B15, 0, none⟩)), (11, .int .i64 ((Lfu.run ((Lfu.run u l).1) m).2)), (12, .int .i64 (Lfu.runErr ((Lfu.run u l).1) m)), (13, .pointer (some ⟨B16_11, 0, none⟩)), (14, .int .i64 ((Lfu.run u (([] ++ l) ++ m)).2)), (15, .int .i64 (Lfu.runErr u (([] ++ l) ++ m)))]) (fun ⟨a16_5, c16_5, S16_5, S16_6, a16_6, c16_6, B16_11⟩ => [box B16_11 [.int .i64 (((Lfu.run u (([] ++ l) ++ m)).1).room), .slice a16_6 (((Lfu.run u (([] ++ l) ++ m)).1).list).length c16_6] 24, own tUse S16_6 a16_6 c16_6 (((Lfu.run u (([] ++ l) ++ m)).1).list), own tInt S16_5 a16_5 c16_5 (([] ++ l) ++ m), box B15 [.int .i64 (((Lfu.run ((Lfu.run u l).1) m).1).room), .slice a12 (((Lfu.run ((Lfu.run u l).1) m).1).list).length c13] 24, own tUse S10 a12 c13 (((Lfu.run ((Lfu.run u l).1) m).1).list), box B7 [.int .i64 (((Lfu.run u l).1).room), .slice a4 (((Lfu.run u l).1).list).length c5] 24, own tUse S2 a4 c5 (((Lfu.run u l).1).list), box B1 [.int .i64 u.room, .slice au_0 u.list.length cu_0] 24, base w0]) (fun K hK17 => ?_) ?_
    · refine c_held hmix [box B15 [.int .i64 (((Lfu.run ((Lfu.run u l).1) m).1).room), .slice a12 (((Lfu.run ((Lfu.run u l).1) m).1).list).length c13] 24, own tUse S10 a12 c13 (((Lfu.run ((Lfu.run u l).1) m).1).list), box B7 [.int .i64 (((Lfu.run u l).1).room), .slice a4 (((Lfu.run u l).1).list).length c5] 24, own tUse S2 a4 c5 (((Lfu.run u l).1).list), box B1 [.int .i64 u.room, .slice au_0 u.list.length cu_0] 24, base w0] rfl rfl ?_
      refine h_take (i := 0) (ls := #[true, false, false, false, false, false, false, false, false, false, false, false, false, false, false]) rfl (by kernel_rfl) (by kernel_rfl) (by kernel_rfl) (fun _ _ _ h => h) (p_load_agg (i := 4) (vs := [.int .i64 u.room, .slice au_0 u.list.length cu_0]) rfl rfl sh24 rfl rfl) rfl rfl rfl (fun _ hw => HeapIs.drop hw (List.Sublist.refl _)) rfl ?_
      refine h_take (i := 2) (ls := #[true, false, true, false, false, false, false, false, false, false, false, false, false, false, false]) rfl (by kernel_rfl) (by kernel_rfl) (by kernel_rfl) (fun _ _ _ h => h) (p_move (v := .slice al l.length cl) rfl) rfl rfl rfl (fun _ hw => HeapIs.drop hw (List.Sublist.refl _)) rfl ?_
      refine h_take (i := 4) (ls := #[true, false, true, false, true, false, false, false, false, false, false, false, false, false, false]) rfl (by kernel_rfl) (by kernel_rfl) (by kernel_rfl) (fun _ _ _ h => h) (p_move (v := .slice am m.length cm) rfl) rfl rfl rfl (fun _ hw => HeapIs.drop hw (List.Sublist.refl _)) rfl ?_
      refine h_two (i := 1) (j := 11) (ls := #[true, true, true, false, true, false, false, false, false, false, false, false, false, false, false]) (ls' := #[true, false, true, false, true, false, false, false, false, false, false, true, false, false, false]) (by kernel_rfl) rfl rfl rfl rfl ?_ ?_
      · refine o_buildSlice (m := 0) (T := tInt) (L := []) (vs := []) rfl rfl rfl rfl Try.underlying25 sz3 (by decide) ze3 rfl (by decide) rfl (fun S16_1 a16_1 => ?_)
        refine o_nil ?_
        refine h_next (fun _ hw => HeapIs.drop hw (List.Sublist.cons _ (List.Sublist.cons_cons _ (List.Sublist.cons_cons _ (List.Sublist.cons_cons _ (List.Sublist.cons_cons _ (List.Sublist.cons_cons _ (List.Sublist.cons_cons _ (List.Sublist.slnil))))))))) ?_
        refine h_two (i := 3) (j := 11) (ls := #[true, true, true, true, true, false, false, false, false, false, false, false, false, false, false]) (ls' := #[true, true, true, false, true, false, false, false, false, false, false, true, false, false, false]) (by kernel_rfl) rfl rfl rfl rfl ?_ ?_
        · refine o_append (i := 0) (L := []) (M := l) (T := tInt) rfl rfl rfl (rd_base (i := 6) rfl hl) Try.underlying25 Try.underlying25 (by intro k h; cases h) el3 (by intro z; simp [tInt, one1]) (by decide) (by simp only [List.length_nil, List.length_append]; omega) rfl (fun a16_3 c16_3 S16_3 => ?_)
          refine o_nil ?_
          refine h_next (fun _ hw => HeapIs.drop hw (List.Sublist.cons _ (List.Sublist.cons_cons _ (List.Sublist.cons_cons _ (List.Sublist.cons_cons _ (List.Sublist.cons_cons _ (List.Sublist.cons_cons _ (List.Sublist.cons_cons _ (List.Sublist.slnil))))))))) ?_
          refine h_two (i := 5) (j := 11) (ls := #[true, true, true, true, true, true, false, false, false, false, false, false, false, false, false]) (ls' := #[true, true, true, true, true, false, false, false, false, false, false, true, false, false, false]) (by kernel_rfl) rfl rfl rfl rfl ?_ ?_
          · refine o_append (i := 0) (L := ([] ++ l)) (M := m) (T := tInt) rfl rfl rfl (rd_base (i := 6) rfl hm) Try.underlying25 Try.underlying25 (by intro k h; cases h) el3 (by intro z; simp [tInt, one1]) (by decide) (by simp only [List.length_nil, List.length_append]; omega) rfl (fun a16_5 c16_5 S16_5 => ?_)
            refine o_nil ?_
            refine h_next (fun _ hw => HeapIs.drop hw (List.Sublist.cons _ (List.Sublist.cons_cons _ (List.Sublist.cons_cons _ (List.Sublist.cons_cons _ (List.Sublist.cons_cons _ (List.Sublist.cons_cons _ (List.Sublist.cons_cons _ (List.Sublist.slnil))))))))) ?_
            refine h_two (i := 6) (j := 11) (ls := #[true, true, true, true, true, true, true, false, false, false, false, false, false, false, false]) (ls' := #[true, true, true, true, true, true, false, false, false, false, false, true, false, false, false]) (by kernel_rfl) rfl rfl rfl rfl ?_ ?_
            · refine o_callM rfl (frun_ok u au_0 cu_0 (([] ++ l) ++ m) a16_5 c16_5) hf16 (fun w hw => ⟨(rd_base (i := 6) rfl hu_0) w hw, (rd_own (i := 0) rfl) w hw⟩) rfl (fun _ _ _ _ ha hA => SlO.agree ha hA) ?_
              rintro ⟨a16_6, c16_6⟩ S16_6
              refine o_know (fun w hw => own_len (i := 0) (T := tUse) hw rfl) (fun hlr16_6 => ?_)
              refine o_nil ?_
              refine h_next (fun _ hw => HeapIs.drop hw (List.Sublist.cons _ (List.Sublist.cons _ (List.Sublist.cons_cons _ (List.Sublist.cons_cons _ (List.Sublist.cons_cons _ (List.Sublist.cons_cons _ (List.Sublist.cons_cons _ (List.Sublist.cons_cons _ (List.Sublist.slnil)))))))))) ?_
              refine h_take (i := 7) (ls := #[true, true, true, true, true, true, true, true, false, false, false, false, false, false, false]) rfl (by kernel_rfl) (by kernel_rfl) (by kernel_rfl) (fun _ _ _ h => h) (p_move (v := .tuple #[.agg #[.int .i64 (((Lfu.run u (([] ++ l) ++ m)).1).room), .slice a16_6 (((Lfu.run u (([] ++ l) ++ m)).1).list).length c16_6], .int .i64 ((Lfu.run u (([] ++ l) ++ m)).2), .int .i64 (Lfu.runErr u (([] ++ l) ++ m))]) rfl) rfl rfl rfl (fun _ hw => HeapIs.drop hw (List.Sublist.cons _ (List.Sublist.cons _ (List.Sublist.cons_cons _ (List.Sublist.cons_cons _ (List.Sublist.cons_cons _ (List.Sublist.cons_cons _ (List.Sublist.cons_cons _ (List.Sublist.cons_cons _ (List.Sublist.slnil)))))))))) rfl ?_
              refine h_take (i := 8) (ls := #[true, true, true, true, true, true, true, true, true, false, false, false, false, false, false]) rfl (by kernel_rfl) (by kernel_rfl) (by kernel_rfl) (fun _ _ _ h => h) (p_extract (vs := [.agg #[.int .i64 (((Lfu.run u (([] ++ l) ++ m)).1).room), .slice a16_6 (((Lfu.run u (([] ++ l) ++ m)).1).list).length c16_6], .int .i64 ((Lfu.run u (([] ++ l) ++ m)).2), .int .i64 (Lfu.runErr u (([] ++ l) ++ m))]) (v := .agg #[.int .i64 (((Lfu.run u (([] ++ l) ++ m)).1).room), .slice a16_6 (((Lfu.run u (([] ++ l) ++ m)).1).list).length c16_6]) rfl rfl) rfl rfl rfl (fun _ hw => HeapIs.drop hw (List.Sublist.cons _ (List.Sublist.cons _ (List.Sublist.cons_cons _ (List.Sublist.cons_cons _ (List.Sublist.cons_cons _ (List.Sublist.cons_cons _ (List.Sublist.cons_cons _ (List.Sublist.cons_cons _ (List.Sublist.slnil)))))))))) rfl ?_
              refine h_take (i := 9) (ls := #[true, true, true, true, true, true, true, true, true, true, false, false, false, false, false]) rfl (by kernel_rfl) (by kernel_rfl) (by kernel_rfl) (fun _ _ _ h => h) (p_extract (vs := [.agg #[.int .i64 (((Lfu.run u (([] ++ l) ++ m)).1).room), .slice a16_6 (((Lfu.run u (([] ++ l) ++ m)).1).list).length c16_6], .int .i64 ((Lfu.run u (([] ++ l) ++ m)).2), .int .i64 (Lfu.runErr u (([] ++ l) ++ m))]) (v := .int .i64 ((Lfu.run u (([] ++ l) ++ m)).2)) rfl rfl) rfl rfl rfl (fun _ hw => HeapIs.drop hw (List.Sublist.cons _ (List.Sublist.cons _ (List.Sublist.cons_cons _ (List.Sublist.cons_cons _ (List.Sublist.cons_cons _ (List.Sublist.cons_cons _ (List.Sublist.cons_cons _ (List.Sublist.cons_cons _ (List.Sublist.slnil)))))))))) rfl ?_
              refine h_take (i := 10) (ls := #[true, true, true, true, true, true, true, true, true, true, true, false, false, false, false]) rfl (by kernel_rfl) (by kernel_rfl) (by kernel_rfl) (fun _ _ _ h => h) (p_extract (vs := [.agg #[.int .i64 (((Lfu.run u (([] ++ l) ++ m)).1).room), .slice a16_6 (((Lfu.run u (([] ++ l) ++ m)).1).list).length c16_6], .int .i64 ((Lfu.run u (([] ++ l) ++ m)).2), .int .i64 (Lfu.runErr u (([] ++ l) ++ m))]) (v := .int .i64 (Lfu.runErr u (([] ++ l) ++ m))) rfl rfl) rfl rfl rfl (fun _ hw => HeapIs.drop hw (List.Sublist.cons _ (List.Sublist.cons _ (List.Sublist.cons_cons _ (List.Sublist.cons_cons _ (List.Sublist.cons_cons _ (List.Sublist.cons_cons _ (List.Sublist.cons_cons _ (List.Sublist.cons_cons _ (List.Sublist.slnil)))))))))) rfl ?_
              refine h_one (i := 11) (ls := #[true, true, true, true, true, true, true, true, true, true, true, true, false, false, false]) (by kernel_rfl) rfl rfl ?_
              refine o_alloc ze24 rfl (fun B16_11 => ?_)
              refine o_nil ?_
              refine h_next (fun _ hw => HeapIs.drop hw (List.Sublist.cons _ (List.Sublist.cons _ (List.Sublist.cons _ (List.Sublist.cons_cons _ (List.Sublist.cons_cons _ (List.Sublist.cons_cons _ (List.Sublist.cons_cons _ (List.Sublist.cons_cons _ (List.Sublist.cons_cons _ (List.Sublist.slnil))))))))))) ?_
              refine h_one (i := 12) (ls := #[true, true, true, true, true, true, true, true, true, true, true, true, true, false, false]) (by kernel_rfl) rfl rfl ?_
              refine o_storeN (i := 0) (vs := [.int .i64 (((Lfu.run u (([] ++ l) ++ m)).1).room), .slice a16_6 (((Lfu.run u (([] ++ l) ++ m)).1).list).length c16_6]) (cs' := [.int .i64 (((Lfu.run u (([] ++ l) ++ m)).1).room), .slice a16_6 (((Lfu.run u (([] ++ l) ++ m)).1).list).length c16_6]) rfl rfl rfl sz24 rfl rfl rfl rfl ?_
              refine o_nil ?_
              refine h_next (fun _ hw => HeapIs.drop hw (List.Sublist.cons _ (List.Sublist.cons _ (List.Sublist.cons _ (List.Sublist.cons_cons _ (List.Sublist.cons_cons _ (List.Sublist.cons_cons _ (List.Sublist.cons_cons _ (List.Sublist.cons_cons _ (List.Sublist.cons_cons _ (List.Sublist.slnil))))))))))) ?_
              refine h_take (i := 13) (ls := #[true, true, true, true, true, true, true, true, true, true, true, true, true, true, false]) rfl (by kernel_rfl) (by kernel_rfl) (by kernel_rfl) (fun _ _ _ h => h) (p_assign (v := .int .i64 ((Lfu.run u (([] ++ l) ++ m)).2)) rfl) rfl rfl rfl (fun _ hw => HeapIs.drop hw (List.Sublist.cons _ (List.Sublist.cons _ (List.Sublist.cons _ (List.Sublist.cons_cons _ (List.Sublist.cons_cons _ (List.Sublist.cons_cons _ (List.Sublist.cons_cons _ (List.Sublist.cons_cons _ (List.Sublist.cons_cons _ (List.Sublist.slnil))))))))))) rfl ?_
              refine h_take (i := 14) (ls := #[true, true, true, true, true, true, true, true, true, true, true, true, true, true, true]) rfl (by kernel_rfl) (by kernel_rfl) (by kernel_rfl) (fun _ _ _ h => h) (p_assign (v := .int .i64 (Lfu.runErr u (([] ++ l) ++ m))) rfl) rfl rfl rfl (fun _ hw => HeapIs.drop hw (List.Sublist.cons _ (List.Sublist.cons _ (List.Sublist.cons _ (List.Sublist.cons_cons _ (List.Sublist.cons_cons _ (List.Sublist.cons_cons _ (List.Sublist.cons_cons _ (List.Sublist.cons_cons _ (List.Sublist.cons_cons _ (List.Sublist.slnil))))))))))) rfl ?_
              refine h_done (by kernel_rfl) ?_
              refine q_kont hK17 (a16_5, c16_5, S16_5, S16_6, a16_6, c16_6, B16_11) (Sub.cons rfl (Sub.cons rfl (Sub.cons rfl (Sub.cons rfl (Sub.cons rfl (Sub.cons rfl (Sub.cons rfl (Sub.nil _)))))))) (fun _ hw => HeapIs.pick hw [0, 1, 2, 3, 4, 5, 6, 7, 8] (by decide) rfl)
            · refine o_alloc ze24 rfl (fun B16_11 => ?_)
              refine o_nil ?_
              refine h_next (fun _ hw => HeapIs.drop hw (List.Sublist.cons _ (List.Sublist.cons _ (List.Sublist.cons_cons _ (List.Sublist.cons_cons _ (List.Sublist.cons_cons _ (List.Sublist.cons_cons _ (List.Sublist.cons_cons _ (List.Sublist.cons_cons _ (List.Sublist.slnil)))))))))) ?_
              refine h_one (i := 6) (ls := #[true, true, true, true, true, true, true, false, false, false, false, true, false, false, false]) (by kernel_rfl) rfl rfl ?_
              refine o_callM rfl (frun_ok u au_0 cu_0 (([] ++ l) ++ m) a16_5 c16_5) hf16 (fun w hw => ⟨(rd_base (i := 7) rfl hu_0) w hw, (rd_own (i := 1) rfl) w hw⟩) rfl (fun _ _ _ _ ha hA => SlO.agree ha hA) ?_
              rintro ⟨a16_6, c16_6⟩ S16_6
              refine o_know (fun w hw => own_len (i := 0) (T := tUse) hw rfl) (fun hlr16_6 => ?_)
              refine o_nil ?_
              refine h_next (fun _ hw => HeapIs.drop hw (List.Sublist.cons _ (List.Sublist.cons _ (List.Sublist.cons _ (List.Sublist.cons_cons _ (List.Sublist.cons_cons _ (List.Sublist.cons_cons _ (List.Sublist.cons_cons _ (List.Sublist.cons_cons _ (List.Sublist.cons_cons _ (List.Sublist.slnil))))))))))) ?_
              refine h_take (i := 7) (ls := #[true, true, true, true, true, true, true, true, false, false, false, true, false, false, false]) rfl (by kernel_rfl) (by kernel_rfl) (by kernel_rfl) (fun _ _ _ h => h) (p_move (v := .tuple #[.agg #[.int .i64 (((Lfu.run u (([] ++ l) ++ m)).1).room), .slice a16_6 (((Lfu.run u (([] ++ l) ++ m)).1).list).length c16_6], .int .i64 ((Lfu.run u (([] ++ l) ++ m)).2), .int .i64 (Lfu.runErr u (([] ++ l) ++ m))]) rfl) rfl rfl rfl (fun _ hw => HeapIs.drop hw (List.Sublist.cons _ (List.Sublist.cons _ (List.Sublist.cons _ (List.Sublist.cons_cons _ (List.Sublist.cons_cons _ (List.Sublist.cons_cons _ (List.Sublist.cons_cons _ (List.Sublist.cons_cons _ (List.Sublist.cons_cons _ (List.Sublist.slnil))))))))))) rfl ?_
              refine h_take (i := 8) (ls := #[true, true, true, true, true, true, true, true, true, false, false, true, false, false, false]) rfl (by kernel_rfl) (by kernel_rfl) (by kernel_rfl) (fun _ _ _ h => h) (p_extract (vs := [.agg #[.int .i64 (((Lfu.run u (([] ++ l) ++ m)).1).room), .slice a16_6 (((Lfu.run u (([] ++ l) ++ m)).1).list).length c16_6], .int .i64 ((Lfu.run u (([] ++ l) ++ m)).2), .int .i64 (Lfu.runErr u (([] ++ l) ++ m))]) (v := .agg #[.int .i64 (((Lfu.run u (([] ++ l) ++ m)).1).room), .slice a16_6 (((Lfu.run u (([] ++ l) ++ m)).1).list).length c16_6]) rfl rfl) rfl rfl rfl (fun _ hw => HeapIs.drop hw (List.Sublist.cons _ (List.Sublist.cons _ (List.Sublist.cons _ (List.Sublist.cons_cons _ (List.Sublist.cons_cons _ (List.Sublist.cons_cons _ (List.Sublist.cons_cons _ (List.Sublist.cons_cons _ (List.Sublist.cons_cons _ (List.Sublist.slnil))))))))))) rfl ?_
              refine h_take (i := 9) (ls := #[true, true, true, true, true, true, true, true, true, true, false, true, false, false, false]) rfl (by kernel_rfl) (by kernel_rfl) (by kernel_rfl) (fun _ _ _ h => h) (p_extract (vs := [.agg #[.int .i64 (((Lfu.run u (([] ++ l) ++ m)).1).room), .slice a16_6 (((Lfu.run u (([] ++ l) ++ m)).1).list).length c16_6], .int .i64 ((Lfu.run u (([] ++ l) ++ m)).2), .int .i64 (Lfu.runErr u (([] ++ l) ++ m))]) (v := .int .i64 ((Lfu.run u (([] ++ l) ++ m)).2)) rfl rfl) rfl rfl rfl (fun _ hw => HeapIs.drop hw (List.Sublist.cons _ (List.Sublist.cons _ (List.Sublist.cons _ (List.Sublist.cons_cons _ (List.Sublist.cons_cons _ (List.Sublist.cons_cons _ (List.Sublist.cons_cons _ (List.Sublist.cons_cons _ (List.Sublist.cons_cons _ (List.Sublist.slnil))))))))))) rfl ?_
              refine h_take (i := 10) (ls := #[true, true, true, true, true, true, true, true, true, true, true, true, false, false, false]) rfl (by kernel_rfl) (by kernel_rfl) (by kernel_rfl) (fun _ _ _ h => h) (p_extract (vs := [.agg #[.int .i64 (((Lfu.run u (([] ++ l) ++ m)).1).room), .slice a16_6 (((Lfu.run u (([] ++ l) ++ m)).1).list).length c16_6], .int .i64 ((Lfu.run u (([] ++ l) ++ m)).2), .int .i64 (Lfu.runErr u (([] ++ l) ++ m))]) (v := .int .i64 (Lfu.runErr u (([] ++ l) ++ m))) rfl rfl) rfl rfl rfl (fun _ hw => HeapIs.drop hw (List.Sublist.cons _ (List.Sublist.cons _ (List.Sublist.cons _ (List.Sublist.cons_cons _ (List.Sublist.cons_cons _ (List.Sublist.cons_cons _ (List.Sublist.cons_cons _ (List.Sublist.cons_cons _ (List.Sublist.cons_cons _ (List.Sublist.slnil))))))))))) rfl ?_
              refine h_one (i := 12) (ls := #[true, true, true, true, true, true, true, true, true, true, true, true, true, false, false]) (by kernel_rfl) rfl rfl ?_
              refine o_storeN (i := 1) (vs := [.int .i64 (((Lfu.run u (([] ++ l) ++ m)).1).room), .slice a16_6 (((Lfu.run u (([] ++ l) ++ m)).1).list).length c16_6]) (cs' := [.int .i64 (((Lfu.run u (([] ++ l) ++ m)).1).room), .slice a16_6 (((Lfu.run u (([] ++ l) ++ m)).1).list).length c16_6]) rfl rfl rfl sz24 rfl rfl rfl rfl ?_
              refine o_nil ?_
              refine h_next (fun _ hw => HeapIs.drop hw (List.Sublist.cons _ (List.Sublist.cons _ (List.Sublist.cons _ (List.Sublist.cons_cons _ (List.Sublist.cons_cons _ (List.Sublist.cons_cons _ (List.Sublist.cons_cons _ (List.Sublist.cons_cons _ (List.Sublist.cons_cons _ (List.Sublist.slnil))))))))))) ?_
              refine h_take (i := 13) (ls := #[true, true, true, true, true, true, true, true, true, true, true, true, true, true, false]) rfl (by kernel_rfl) (by kernel_rfl) (by kernel_rfl) (fun _ _ _ h => h) (p_assign (v := .int .i64 ((Lfu.run u (([] ++ l) ++ m)).2)) rfl) rfl rfl rfl (fun _ hw => HeapIs.drop hw (List.Sublist.cons _ (List.Sublist.cons _ (List.Sublist.cons _ (List.Sublist.cons_cons _ (List.Sublist.cons_cons _ (List.Sublist.cons_cons _ (List.Sublist.cons_cons _ (List.Sublist.cons_cons _ (List.Sublist.cons_cons _ (List.Sublist.slnil))))))))))) rfl ?_
              refine h_take (i := 14) (ls := #[true, true, true, true, true, true, true, true, true, true, true, true, true, true, true]) rfl (by kernel_rfl) (by kernel_rfl) (by kernel_rfl) (fun _ _ _ h => h) (p_assign (v := .int .i64 (Lfu.runErr u (([] ++ l) ++ m))) rfl) rfl rfl rfl (fun _ hw => HeapIs.drop hw (List.Sublist.cons _ (List.Sublist.cons _ (List.Sublist.cons _ (List.Sublist.cons_cons _ (List.Sublist.cons_cons _ (List.Sublist.cons_cons _ (List.Sublist.cons_cons _ (List.Sublist.cons_cons _ (List.Sublist.cons_cons _ (List.Sublist.slnil))))))))))) rfl ?_
              refine h_done (by kernel_rfl) ?_
              refine q_kont hK17 (a16_5, c16_5, S16_5, S16_6, a16_6, c16_6, B16_11) (Sub.cons rfl (Sub.cons rfl (Sub.cons rfl (Sub.cons rfl (Sub.cons rfl (Sub.cons rfl (Sub.cons rfl (Sub.nil _)))))))) (fun _ hw => HeapIs.pick hw [1, 0, 2, 3, 4, 5, 6, 7, 8] (by decide) rfl)
          · refine o_alloc ze24 rfl (fun B16_11 => ?_)
            refine o_nil ?_
            refine h_next (fun _ hw => HeapIs.drop hw (List.Sublist.cons _ (List.Sublist.cons _ (List.Sublist.cons_cons _ (List.Sublist.cons_cons _ (List.Sublist.cons_cons _ (List.Sublist.cons_cons _ (List.Sublist.cons_cons _ (List.Sublist.cons_cons _ (List.Sublist.slnil)))))))))) ?_
            refine h_one (i := 5) (ls := #[true, true, true, true, true, true, false, false, false, false, false, true, false, false, false]) (by kernel_rfl) rfl rfl ?_
            refine o_append (i := 1) (L := ([] ++ l)) (M := m) (T := tInt) rfl rfl rfl (rd_base (i := 7) rfl hm) Try.underlying25 Try.underlying25 (by intro k h; cases h) el3 (by intro z; simp [tInt, one1]) (by decide) (by simp only [List.length_nil, List.length_append]; omega) rfl (fun a16_5 c16_5 S16_5 => ?_)
            refine o_nil ?_
            refine h_next (fun _ hw => HeapIs.drop hw (List.Sublist.cons _ (List.Sublist.cons _ (List.Sublist.cons_cons _ (List.Sublist.cons_cons _ (List.Sublist.cons_cons _ (List.Sublist.cons_cons _ (List.Sublist.cons_cons _ (List.Sublist.cons_cons _ (List.Sublist.slnil)))))))))) ?_
            refine h_one (i := 6) (ls := #[true, true, true, true, true, true, true, false, false, false, false, true, false, false, false]) (by kernel_rfl) rfl rfl ?_
            refine o_callM rfl (frun_ok u au_0 cu_0 (([] ++ l) ++ m) a16_5 c16_5) hf16 (fun w hw => ⟨(rd_base (i := 7) rfl hu_0) w hw, (rd_own (i := 1) rfl) w hw⟩) rfl (fun _ _ _ _ ha hA => SlO.agree ha hA) ?_
            rintro ⟨a16_6, c16_6⟩ S16_6
            refine o_know (fun w hw => own_len (i := 0) (T := tUse) hw rfl) (fun hlr16_6 => ?_)
            refine o_nil ?_
            refine h_next (fun _ hw => HeapIs.drop hw (List.Sublist.cons _ (List.Sublist.cons _ (List.Sublist.cons _ (List.Sublist.cons_cons _ (List.Sublist.cons_cons _ (List.Sublist.cons_cons _ (List.Sublist.cons_cons _ (List.Sublist.cons_cons _ (List.Sublist.cons_cons _ (List.Sublist.slnil))))))))))) ?_
            refine h_take (i := 7) (ls := #[true, true, true, true, true, true, true, true, false, false, false, true, false, false, false]) rfl (by kernel_rfl) (by kernel_rfl) (by kernel_rfl) (fun _ _ _ h => h) (p_move (v := .tuple #[.agg #[.int .i64 (((Lfu.run u (([] ++ l) ++ m)).1).room), .slice a16_6 (((Lfu.run u (([] ++ l) ++ m)).1).list).length c16_6], .int .i64 ((Lfu.run u (([] ++ l) ++ m)).2), .int .i64 (Lfu.runErr u (([] ++ l) ++ m))]) rfl) rfl rfl rfl (fun _ hw => HeapIs.drop hw (List.Sublist.cons _ (List.Sublist.cons _ (List.Sublist.cons _ (List.Sublist.cons_cons _ (List.Sublist.cons_cons _ (List.Sublist.cons_cons _ (List.Sublist.cons_cons _ (List.Sublist.cons_cons _ (List.Sublist.cons_cons _ (List.Sublist.slnil))))))))))) rfl ?_
            refine h_take (i := 8) (ls := #[true, true, true, true, true, true, true, true, true, false, false, true, false, false, false]) rfl (by kernel_rfl) (by kernel_rfl) (by kernel_rfl) (fun _ _ _ h => h) (p_extract (vs := [.agg #[.int .i64 (((Lfu.run u (([] ++ l) ++ m)).1).room), .slice a16_6 (((Lfu.run u (([] ++ l) ++ m)).1).list).length c16_6], .int .i64 ((Lfu.run u (([] ++ l) ++ m)).2), .int .i64 (Lfu.runErr u (([] ++ l) ++ m))]) (v := .agg #[.int .i64 (((Lfu.run u (([] ++ l) ++ m)).1).room), .slice a16_6 (((Lfu.run u (([] ++ l) ++ m)).1).list).length c16_6]) rfl rfl) rfl rfl rfl (fun _ hw => HeapIs.drop hw (List.Sublist.cons _ (List.Sublist.cons _ (List.Sublist.cons _ (List.Sublist.cons_cons _ (List.Sublist.cons_cons _ (List.Sublist.cons_cons _ (List.Sublist.cons_cons _ (List.Sublist.cons_cons _ (List.Sublist.cons_cons _ (List.Sublist.slnil))))))))))) rfl ?_
            refine h_take (i := 9) (ls := #[true, true, true, true, true, true, true, true, true, true, false, true, false, false, false]) rfl (by kernel_rfl) (by kernel_rfl) (by kernel_rfl) (fun _ _ _ h => h) (p_extract (vs := [.agg #[.int .i64 (((Lfu.run u (([] ++ l) ++ m)).1).room), .slice a16_6 (((Lfu.run u (([] ++ l) ++ m)).1).list).length c16_6], .int .i64 ((Lfu.run u (([] ++ l) ++ m)).2), .int .i64 (Lfu.runErr u (([] ++ l) ++ m))]) (v := .int .i64 ((Lfu.run u (([] ++ l) ++ m)).2)) rfl rfl) rfl rfl rfl (fun _ hw => HeapIs.drop hw (List.Sublist.cons _ (List.Sublist.cons _ (List.Sublist.cons _ (List.Sublist.cons_cons _ (List.Sublist.cons_cons _ (List.Sublist.cons_cons _ (List.Sublist.cons_cons _ (List.Sublist.cons_cons _ (List.Sublist.cons_cons _ (List.Sublist.slnil))))))))))) rfl ?_
            refine h_take (i := 10) (ls := #[true, true, true, true, true, true, true, true, true, true, true, true, false, false, false]) rfl (by kernel_rfl) (by kernel_rfl) (by kernel_rfl) (fun _ _ _ h => h) (p_extract (vs := [.agg #[.int .i64 (((Lfu.run u (([] ++ l) ++ m)).1).room), .slice a16_6 (((Lfu.run u (([] ++ l) ++ m)).1).list).length c16_6], .int .i64 ((Lfu.run u (([] ++ l) ++ m)).2), .int .i64 (Lfu.runErr u (([] ++ l) ++ m))]) (v := .int .i64 (Lfu.runErr u (([] ++ l) ++ m))) rfl rfl) rfl rfl rfl (fun _ hw => HeapIs.drop hw (List.Sublist.cons _ (List.Sublist.cons _ (List.Sublist.cons _ (List.Sublist.cons_cons _ (List.Sublist.cons_cons _ (List.Sublist.cons_cons _ (List.Sublist.cons_cons _ (List.Sublist.cons_cons _ (List.Sublist.cons_cons _ (List.Sublist.slnil))))))))))) rfl ?_
            refine h_one (i := 12) (ls := #[true, true, true, true, true, true, true, true, true, true, true, true, true, false, false]) (by kernel_rfl) rfl rfl ?_
            refine o_storeN (i := 1) (vs := [.int .i64 (((Lfu.run u (([] ++ l) ++ m)).1).room), .slice a16_6 (((Lfu.run u (([] ++ l) ++ m)).1).list).length c16_6]) (cs' := [.int .i64 (((Lfu.run u (([] ++ l) ++ m)).1).room), .slice a16_6 (((Lfu.run u (([] ++ l) ++ m)).1).list).length c16_6]) rfl rfl rfl sz24 rfl rfl rfl rfl ?_
            refine o_nil ?_
            refine h_next (fun _ hw => HeapIs.drop hw (List.Sublist.cons _ (List.Sublist.cons _ (List.Sublist.cons _ (List.Sublist.cons_cons _ (List.Sublist.cons_cons _ (List.Sublist.cons_cons _ (List.Sublist.cons_cons _ (List.Sublist.cons_cons _ (List.Sublist.cons_cons _ (List.Sublist.slnil))))))))))) ?_
            refine h_take (i := 13) (ls := #[true, true, true, true, true, true, true, true, true, true, true, true, true, true, false]) rfl (by kernel_rfl) (by kernel_rfl) (by kernel_rfl) (fun _ _ _ h => h) (p_assign (v := .int .i64 ((Lfu.run u (([] ++ l) ++ m)).2)) rfl) rfl rfl rfl (fun _ hw => HeapIs.drop hw (List.Sublist.cons _ (List.Sublist.cons _ (List.Sublist.cons _ (List.Sublist.cons_cons _ (List.Sublist.cons_cons _ (List.Sublist.cons_cons _ (List.Sublist.cons_cons _ (List.Sublist.cons_cons _ (List.Sublist.cons_cons _ (List.Sublist.slnil))))))))))) rfl ?_
            refine h_take (i := 14) (ls := #[true, true, true, true, true, true, true, true, true, true, true, true, true, true, true]) rfl (by kernel_rfl) (by kernel_rfl) (by kernel_rfl) (fun _ _ _ h => h) (p_assign (v := .int .i64 (Lfu.runErr u (([] ++ l) ++ m))) rfl) rfl rfl rfl (fun _ hw => HeapIs.drop hw (List.Sublist.cons _ (List.Sublist.cons _ (List.Sublist.cons _ (List.Sublist.cons_cons _ (List.Sublist.cons_cons _ (List.Sublist.cons_cons _ (List.Sublist.cons_cons _ (List.Sublist.cons_cons _ (List.Sublist.cons_cons _ (List.Sublist.slnil))))))))))) rfl ?_
            refine h_done (by kernel_rfl) ?_
            refine q_kont hK17 (a16_5, c16_5, S16_5, S16_6, a16_6, c16_6, B16_11) (Sub.cons rfl (Sub.cons rfl (Sub.cons rfl (Sub.cons rfl (Sub.cons rfl (Sub.cons rfl (Sub.cons rfl (Sub.nil _)))))))) (fun _ hw => HeapIs.pick hw [1, 0, 2, 3, 4, 5, 6, 7, 8] (by decide) rfl)
        · refine o_alloc ze24 rfl (fun B16_11 => ?_)
          refine o_nil ?_
          refine h_next (fun _ hw => HeapIs.drop hw (List.Sublist.cons _ (List.Sublist.cons _ (List.Sublist.cons_cons _ (List.Sublist.cons_cons _ (List.Sublist.cons_cons _ (List.Sublist.cons_cons _ (List.Sublist.cons_cons _ (List.Sublist.cons_cons _ (List.Sublist.slnil)))))))))) ?_
          refine h_one (i := 3) (ls := #[true, true, true, true, true, false, false, false, false, false, false, true, false, false, false]) (by kernel_rfl) rfl rfl ?_
          refine o_append (i := 1) (L := []) (M := l) (T := tInt) rfl rfl rfl (rd_base (i := 7) rfl hl) Try.underlying25 Try.underlying25 (by intro k h; cases h) el3 (by intro z; simp [tInt, one1]) (by decide) (by simp only [List.length_nil, List.length_append]; omega) rfl (fun a16_3 c16_3 S16_3 => ?_)
          refine o_nil ?_
          refine h_next (fun _ hw => HeapIs.drop hw (List.Sublist.cons _ (List.Sublist.cons _ (List.Sublist.cons_cons _ (List.Sublist.cons_cons _ (List.Sublist.cons_cons _ (List.Sublist.cons_cons _ (List.Sublist.cons_cons _ (List.Sublist.cons_cons _ (List.Sublist.slnil)))))))))) ?_
          refine h_one (i := 5) (ls := #[true, true, true, true, true, true, false, false, false, false, false, true, false, false, false]) (by kernel_rfl) rfl rfl ?_
          refine o_append (i := 1) (L := ([] ++ l)) (M := m) (T := tInt) rfl rfl rfl (rd_base (i := 7) rfl hm) Try.underlying25 Try.underlying25 (by intro k h; cases h) el3 (by intro z; simp [tInt, one1]) (by decide) (by simp only [List.length_nil, List.length_append]; omega) rfl (fun a16_5 c16_5 S16_5 => ?_)
          refine o_nil ?_
          refine h_next (fun _ hw => HeapIs.drop hw (List.Sublist.cons _ (List.Sublist.cons _ (List.Sublist.cons_cons _ (List.Sublist.cons_cons _ (List.Sublist.cons_cons _ (List.Sublist.cons_cons _ (List.Sublist.cons_cons _ (List.Sublist.cons_cons _ (List.Sublist.slnil)))))))))) ?_
          refine h_one (i := 6) (ls := #[true, true, true, true, true, true, true, false, false, false, false, true, false, false, false]) (by kernel_rfl) rfl rfl ?_
          refine o_callM rfl (frun_ok u au_0 cu_0 (([] ++ l) ++ m) a16_5 c16_5) hf16 (fun w hw => ⟨(rd_base (i := 7) rfl hu_0) w hw, (rd_own (i := 1) rfl) w hw⟩) rfl (fun _ _ _ _ ha hA => SlO.agree ha hA) ?_
          rintro ⟨a16_6, c16_6⟩ S16_6
          refine o_know (fun w hw => own_len (i := 0) (T := tUse) hw rfl) (fun hlr16_6 => ?_)
          refine o_nil ?_
          refine h_next (fun _ hw => HeapIs.drop hw (List.Sublist.cons _ (List.Sublist.cons _ (List.Sublist.cons _ (List.Sublist.cons_cons _ (List.Sublist.cons_cons _ (List.Sublist.cons_cons _ (List.Sublist.cons_cons _ (List.Sublist.cons_cons _ (List.Sublist.cons_cons _ (List.Sublist.slnil))))))))))) ?_
          refine h_take (i := 7) (ls := #[true, true, true, true, true, true, true, true, false, false, false, true, false, false, false]) rfl (by kernel_rfl) (by kernel_rfl) (by kernel_rfl) (fun _ _ _ h => h) (p_move (v := .tuple #[.agg #[.int .i64 (((Lfu.run u (([] ++ l) ++ m)).1).room), .slice a16_6 (((Lfu.run u (([] ++ l) ++ m)).1).list).length c16_6], .int .i64 ((Lfu.run u (([] ++ l) ++ m)).2), .int .i64 (Lfu.runErr u (([] ++ l) ++ m))]) rfl) rfl rfl rfl (fun _ hw => HeapIs.drop hw (List.Sublist.cons _ (List.Sublist.cons _ (List.Sublist.cons _ (List.Sublist.cons_cons _ (List.Sublist.cons_cons _ (List.Sublist.cons_cons _ (List.Sublist.cons_cons _ (List.Sublist.cons_cons _ (List.Sublist.cons_cons _ (List.Sublist.slnil))))))))))) rfl ?_
          refine h_take (i := 8) (ls := #[true, true, true, true, true, true, true, true, true, false, false, true, false, false, false]) rfl (by kernel_rfl) (by kernel_rfl) (by kernel_rfl) (fun _ _ _ h => h) (p_extract (vs := [.agg #[.int .i64 (((Lfu.run u (([] ++ l) ++ m)).1).room), .slice a16_6 (((Lfu.run u (([] ++ l) ++ m)).1).list).length c16_6], .int .i64 ((Lfu.run u (([] ++ l) ++ m)).2), .int .i64 (Lfu.runErr u (([] ++ l) ++ m))]) (v := .agg #[.int .i64 (((Lfu.run u (([] ++ l) ++ m)).1).room), .slice a16_6 (((Lfu.run u (([] ++ l) ++ m)).1).list).length c16_6]) rfl rfl) rfl rfl rfl (fun _ hw => HeapIs.drop hw (List.Sublist.cons _ (List.Sublist.cons _ (List.Sublist.cons _ (List.Sublist.cons_cons _ (List.Sublist.cons_cons _ (List.Sublist.cons_cons _ (List.Sublist.cons_cons _ (List.Sublist.cons_cons _ (List.Sublist.cons_cons _ (List.Sublist.slnil))))))))))) rfl ?_
          refine h_take (i := 9) (ls := #[true, true, true, true, true, true, true, true, true, true, false, true, false, false, false]) rfl (by kernel_rfl) (by kernel_rfl) (by kernel_rfl) (fun _ _ _ h => h) (p_extract (vs := [.agg #[.int .i64 (((Lfu.run u (([] ++ l) ++ m)).1).room), .slice a16_6 (((Lfu.run u (([] ++ l) ++ m)).1).list).length c16_6], .int .i64 ((Lfu.run u (([] ++ l) ++ m)).2), .int .i64 (Lfu.runErr u (([] ++ l) ++ m))]) (v := .int .i64 ((Lfu.run u (([] ++ l) ++ m)).2)) rfl rfl) rfl rfl rfl (fun _ hw => HeapIs.drop hw (List.Sublist.cons _ (List.Sublist.cons _ (List.Sublist.cons _ (List.Sublist.cons_cons _ (List.Sublist.cons_cons _ (List.Sublist.cons_cons _ (List.Sublist.cons_cons _ (List.Sublist.cons_cons _ (List.Sublist.cons_cons _ (List.Sublist.slnil))))))))))) rfl ?_
          refine h_take (i := 10) (ls := #[true, true, true, true, true, true, true, true, true, true, true, true, false, false, false]) rfl (by kernel_rfl) (by kernel_rfl) (by kernel_rfl) (fun _ _ _ h => h) (p_extract (vs := [.agg #[.int .i64 (((Lfu.run u (([] ++ l) ++ m)).1).room), .slice a16_6 (((Lfu.run u (([] ++ l) ++ m)).1).list).length c16_6], .int .i64 ((Lfu.run u (([] ++ l) ++ m)).2), .int .i64 (Lfu.runErr u (([] ++ l) ++ m))]) (v := .int .i64 (Lfu.runErr u (([] ++ l) ++ m))) rfl rfl) rfl rfl rfl (fun _ hw => HeapIs.drop hw (List.Sublist.cons _ (List.Sublist.cons _ (List.Sublist.cons _ (List.Sublist.cons_cons _ (List.Sublist.cons_cons _ (List.Sublist.cons_cons _ (List.Sublist.cons_cons _ (List.Sublist.cons_cons _ (List.Sublist.cons_cons _ (List.Sublist.slnil))))))))))) rfl ?_
          refine h_one (i := 12) (ls := #[true, true, true, true, true, true, true, true, true, true, true, true, true, false, false]) (by kernel_rfl) rfl rfl ?_
          refine o_storeN (i := 1) (vs := [.int .i64 (((Lfu.run u (([] ++ l) ++ m)).1).room), .slice a16_6 (((Lfu.run u (([] ++ l) ++ m)).1).list).length c16_6]) (cs' := [.int .i64 (((Lfu.run u (([] ++ l) ++ m)).1).room), .slice a16_6 (((Lfu.run u (([] ++ l) ++ m)).1).list).length c16_6]) rfl rfl rfl sz24 rfl rfl rfl rfl ?_
          refine o_nil ?_
          refine h_next (fun _ hw => HeapIs.drop hw (List.Sublist.cons _ (List.Sublist.cons _ (List.Sublist.cons _ (List.Sublist.cons_cons _ (List.Sublist.cons_cons _ (List.Sublist.cons_cons _ (List.Sublist.cons_cons _ (List.Sublist.cons_cons _ (List.Sublist.cons_cons _ (List.Sublist.slnil))))))))))) ?_
          refine h_take (i := 13) (ls := #[true, true, true, true, true, true, true, true, true, true, true, true, true, true, false]) rfl (by kernel_rfl) (by kernel_rfl) (by kernel_rfl) (fun _ _ _ h => h) (p_assign (v := .int .i64 ((Lfu.run u (([] ++ l) ++ m)).2)) rfl) rfl rfl rfl (fun _ hw => HeapIs.drop hw (List.Sublist.cons _ (List.Sublist.cons _ (List.Sublist.cons _ (List.Sublist.cons_cons _ (List.Sublist.cons_cons _ (List.Sublist.cons_cons _ (List.Sublist.cons_cons _ (List.Sublist.cons_cons _ (List.Sublist.cons_cons _ (List.Sublist.slnil))))))))))) rfl ?_
          refine h_take (i := 14) (ls := #[true, true, true, true, true, true, true, true, true, true, true, true, true, true, true]) rfl (by kernel_rfl) (by kernel_rfl) (by kernel_rfl) (fun _ _ _ h => h) (p_assign (v := .int .i64 (Lfu.runErr u (([] ++ l) ++ m))) rfl) rfl rfl rfl (fun _ hw => HeapIs.drop hw (List.Sublist.cons _ (List.Sublist.cons _ (List.Sublist.cons _ (List.Sublist.cons_cons _ (List.Sublist.cons_cons _ (List.Sublist.cons_cons _ (List.Sublist.cons_cons _ (List.Sublist.cons_cons _ (List.Sublist.cons_cons _ (List.Sublist.slnil))))))))))) rfl ?_
          refine h_done (by kernel_rfl) ?_
          refine q_kont hK17 (a16_5, c16_5, S16_5, S16_6, a16_6, c16_6, B16_11) (Sub.cons rfl (Sub.cons rfl (Sub.cons rfl (Sub.cons rfl (Sub.cons rfl (Sub.cons rfl (Sub.cons rfl (Sub.nil _)))))))) (fun _ hw => HeapIs.pick hw [1, 0, 2, 3, 4, 5, 6, 7, 8] (by decide) rfl)
      · refine o_alloc ze24 rfl (fun B16_11 => ?_)
        refine o_nil ?_
        refine h_next (fun _ hw => HeapIs.drop hw (List.Sublist.cons _ (List.Sublist.cons_cons _ (List.Sublist.cons_cons _ (List.Sublist.cons_cons _ (List.Sublist.cons_cons _ (List.Sublist.cons_cons _ (List.Sublist.cons_cons _ (List.Sublist.slnil))))))))) ?_
        refine h_one (i := 1) (ls := #[true, true, true, false, true, false, false, false, false, false, false, true, false, false, false]) (by kernel_rfl) rfl rfl ?_
        refine o_buildSlice (m := 0) (T := tInt) (L := []) (vs := []) rfl rfl rfl rfl Try.underlying25 sz3 (by decide) ze3 rfl (by decide) rfl (fun S16_1 a16_1 => ?_)
        refine o_nil ?_
        refine h_next (fun _ hw => HeapIs.drop hw (List.Sublist.cons _ (List.Sublist.cons _ (List.Sublist.cons_cons _ (List.Sublist.cons_cons _ (List.Sublist.cons_cons _ (List.Sublist.cons_cons _ (List.Sublist.cons_cons _ (List.Sublist.cons_cons _ (List.Sublist.slnil)))))))))) ?_
        refine h_one (i := 3) (ls := #[true, true, true, true, true, false, false, false, false, false, false, true, false, false, false]) (by kernel_rfl) rfl rfl ?_
        refine o_append (i := 0) (L := []) (M := l) (T := tInt) rfl rfl rfl (rd_base (i := 7) rfl hl) Try.underlying25 Try.underlying25 (by intro k h; cases h) el3 (by intro z; simp [tInt, one1]) (by decide) (by simp only [List.length_nil, List.length_append]; omega) rfl (fun a16_3 c16_3 S16_3 => ?_)
        refine o_nil ?_
        refine h_next (fun _ hw => HeapIs.drop hw (List.Sublist.cons _ (List.Sublist.cons _ (List.Sublist.cons_cons _ (List.Sublist.cons_cons _ (List.Sublist.cons_cons _ (List.Sublist.cons_cons _ (List.Sublist.cons_cons _ (List.Sublist.cons_cons _ (List.Sublist.slnil)))))))))) ?_
        refine h_one (i := 5) (ls := #[true, true, true, true, true, true, false, false, false, false, false, true, false, false, false]) (by kernel_rfl) rfl rfl ?_
        refine o_append (i := 0) (L := ([] ++ l)) (M := m) (T := tInt) rfl rfl rfl (rd_base (i := 7) rfl hm) Try.underlying25 Try.underlying25 (by intro k h; cases h) el3 (by intro z; simp [tInt, one1]) (by decide) (by simp only [List.length_nil, List.length_append]; omega) rfl (fun a16_5 c16_5 S16_5 => ?_)
        refine o_nil ?_
        refine h_next (fun _ hw => HeapIs.drop hw (List.Sublist.cons _ (List.Sublist.cons _ (List.Sublist.cons_cons _ (List.Sublist.cons_cons _ (List.Sublist.cons_cons _ (List.Sublist.cons_cons _ (List.Sublist.cons_cons _ (List.Sublist.cons_cons _ (List.Sublist.slnil)))))))))) ?_
        refine h_one (i := 6) (ls := #[true, true, true, true, true, true, true, false, false, false, false, true, false, false, false]) (by kernel_rfl) rfl rfl ?_
        refine o_callM rfl (frun_ok u au_0 cu_0 (([] ++ l) ++ m) a16_5 c16_5) hf16 (fun w hw => ⟨(rd_base (i := 7) rfl hu_0) w hw, (rd_own (i := 0) rfl) w hw⟩) rfl (fun _ _ _ _ ha hA => SlO.agree ha hA) ?_
        rintro ⟨a16_6, c16_6⟩ S16_6
        refine o_know (fun w hw => own_len (i := 0) (T := tUse) hw rfl) (fun hlr16_6 => ?_)
        refine o_nil ?_
        refine h_next (fun _ hw => HeapIs.drop hw (List.Sublist.cons _ (List.Sublist.cons _ (List.Sublist.cons _ (List.Sublist.cons_cons _ (List.Sublist.cons_cons _ (List.Sublist.cons_cons _ (List.Sublist.cons_cons _ (List.Sublist.cons_cons _ (List.Sublist.cons_cons _ (List.Sublist.slnil))))))))))) ?_
        refine h_take (i := 7) (ls := #[true, true, true, true, true, true, true, true, false, false, false, true, false, false, false]) rfl (by kernel_rfl) (by kernel_rfl) (by kernel_rfl) (fun _ _ _ h => h) (p_move (v := .tuple #[.agg #[.int .i64 (((Lfu.run u (([] ++ l) ++ m)).1).room), .slice a16_6 (((Lfu.run u (([] ++ l) ++ m)).1).list).length c16_6], .int .i64 ((Lfu.run u (([] ++ l) ++ m)).2), .int .i64 (Lfu.runErr u (([] ++ l) ++ m))]) rfl) rfl rfl rfl (fun _ hw => HeapIs.drop hw (List.Sublist.cons _ (List.Sublist.cons _ (List.Sublist.cons _ (List.Sublist.cons_cons _ (List.Sublist.cons_cons _ (List.Sublist.cons_cons _ (List.Sublist.cons_cons _ (List.Sublist.cons_cons _ (List.Sublist.cons_cons _ (List.Sublist.slnil))))))))))) rfl ?_
        refine h_take (i := 8) (ls := #[true, true, true, true, true, true, true, true, true, false, false, true, false, false, false]) rfl (by kernel_rfl) (by kernel_rfl) (by kernel_rfl) (fun _ _ _ h => h) (p_extract (vs := [.agg #[.int .i64 (((Lfu.run u (([] ++ l) ++ m)).1).room), .slice a16_6 (((Lfu.run u (([] ++ l) ++ m)).1).list).length c16_6], .int .i64 ((Lfu.run u (([] ++ l) ++ m)).2), .int .i64 (Lfu.runErr u (([] ++ l) ++ m))]) (v := .agg #[.int .i64 (((Lfu.run u (([] ++ l) ++ m)).1).room), .slice a16_6 (((Lfu.run u (([] ++ l) ++ m)).1).list).length c16_6]) rfl rfl) rfl rfl rfl (fun _ hw => HeapIs.drop hw (List.Sublist.cons _ (List.Sublist.cons _ (List.Sublist.cons _ (List.Sublist.cons_cons _ (List.Sublist.cons_cons _ (List.Sublist.cons_cons _ (List.Sublist.cons_cons _ (List.Sublist.cons_cons _ (List.Sublist.cons_cons _ (List.Sublist.slnil))))))))))) rfl ?_
        refine h_take (i := 9) (ls := #[true, true, true, true, true, true, true, true, true, true, false, true, false, false, false]) rfl (by kernel_rfl) (by kernel_rfl) (by kernel_rfl) (fun _ _ _ h => h) (p_extract (vs := [.agg #[.int .i64 (((Lfu.run u (([] ++ l) ++ m)).1).room), .slice a16_6 (((Lfu.run u (([] ++ l) ++ m)).1).list).length c16_6], .int .i64 ((Lfu.run u (([] ++ l) ++ m)).2), .int .i64 (Lfu.runErr u (([] ++ l) ++ m))]) (v := .int .i64 ((Lfu.run u (([] ++ l) ++ m)).2)) rfl rfl) rfl rfl rfl (fun _ hw => HeapIs.drop hw (List.Sublist.cons _ (List.Sublist.cons _ (List.Sublist.cons _ (List.Sublist.cons_cons _ (List.Sublist.cons_cons _ (List.Sublist.cons_cons _ (List.Sublist.cons_cons _ (List.Sublist.cons_cons _ (List.Sublist.cons_cons _ (List.Sublist.slnil))))))))))) rfl ?_
        refine h_take (i := 10) (ls := #[true, true, true, true, true, true, true, true, true, true, true, true, false, false, false]) rfl (by kernel_rfl) (by kernel_rfl) (by kernel_rfl) (fun _ _ _ h => h) (p_extract (vs := [.agg #[.int .i64 (((Lfu.run u (([] ++ l) ++ m)).1).room), .slice a16_6 (((Lfu.run u (([] ++ l) ++ m)).1).list).length c16_6], .int .i64 ((Lfu.run u (([] ++ l) ++ m)).2), .int .i64 (Lfu.runErr u (([] ++ l) ++ m))]) (v := .int .i64 (Lfu.runErr u (([] ++ l) ++ m))) rfl rfl) rfl rfl rfl (fun _ hw => HeapIs.drop hw (List.Sublist.cons _ (List.Sublist.cons _ (List.Sublist.cons _ (List.Sublist.cons_cons _ (List.Sublist.cons_cons _ (List.Sublist.cons_cons _ (List.Sublist.cons_cons _ (List.Sublist.cons_cons _ (List.Sublist.cons_cons _ (List.Sublist.slnil))))))))))) rfl ?_
        refine h_one (i := 12) (ls := #[true, true, true, true, true, true, true, true, true, true, true, true, true, false, false]) (by kernel_rfl) rfl rfl ?_
        refine o_storeN (i := 2) (vs := [.int .i64 (((Lfu.run u (([] ++ l) ++ m)).1).room), .slice a16_6 (((Lfu.run u (([] ++ l) ++ m)).1).list).length c16_6]) (cs' := [.int .i64 (((Lfu.run u (([] ++ l) ++ m)).1).room), .slice a16_6 (((Lfu.run u (([] ++ l) ++ m)).1).list).length c16_6]) rfl rfl rfl sz24 rfl rfl rfl rfl ?_
        refine o_nil ?_
        refine h_next (fun _ hw => HeapIs.drop hw (List.Sublist.cons _ (List.Sublist.cons _ (List.Sublist.cons _ (List.Sublist.cons_cons _ (List.Sublist.cons_cons _ (List.Sublist.cons_cons _ (List.Sublist.cons_cons _ (List.Sublist.cons_cons _ (List.Sublist.cons_cons _ (List.Sublist.slnil))))))))))) ?_
        refine h_take (i := 13) (ls := #[true, true, true, true, true, true, true, true, true, true, true, true, true, true, false]) rfl (by kernel_rfl) (by kernel_rfl) (by kernel_rfl) (fun _ _ _ h => h) (p_assign (v := .int .i64 ((Lfu.run u (([] ++ l) ++ m)).2)) rfl) rfl rfl rfl (fun _ hw => HeapIs.drop hw (List.Sublist.cons _ (List.Sublist.cons _ (List.Sublist.cons _ (List.Sublist.cons_cons _ (List.Sublist.cons_cons _ (List.Sublist.cons_cons _ (List.Sublist.cons_cons _ (List.Sublist.cons_cons _ (List.Sublist.cons_cons _ (List.Sublist.slnil))))))))))) rfl ?_
        refine h_take (i := 14) (ls := #[true, true, true, true, true, true, true, true, true, true, true, true, true, true, true]) rfl (by kernel_rfl) (by kernel_rfl) (by kernel_rfl) (fun _ _ _ h => h) (p_assign (v := .int .i64 (Lfu.runErr u (([] ++ l) ++ m))) rfl) rfl rfl rfl (fun _ hw => HeapIs.drop hw (List.Sublist.cons _ (List.Sublist.cons _ (List.Sublist.cons _ (List.Sublist.cons_cons _ (List.Sublist.cons_cons _ (List.Sublist.cons_cons _ (List.Sublist.cons_cons _ (List.Sublist.cons_cons _ (List.Sublist.cons_cons _ (List.Sublist.slnil))))))))))) rfl ?_
        refine h_done (by kernel_rfl) ?_
        refine q_kont hK17 (a16_5, c16_5, S16_5, S16_6, a16_6, c16_6, B16_11) (Sub.cons rfl (Sub.cons rfl (Sub.cons rfl (Sub.cons rfl (Sub.cons rfl (Sub.cons rfl (Sub.cons rfl (Sub.nil _)))))))) (fun _ hw => HeapIs.pick hw [2, 0, 1, 3, 4, 5, 6, 7, 8] (by decide) rfl)
    rintro ⟨a16_5, c16_5, S16_5, S16_6, a16_6, c16_6, B16_11⟩
    show SQ _ 132 w0 _ _ [(8, .int .i64 ((Lfu.run u l).2)), (10, .pointer (some ⟨B15, 0, none⟩)), (11, .int .i64 ((Lfu.run ((Lfu.run u l).1) m).2)), (12, .int .i64 (Lfu.runErr ((Lfu.run u l).1) m)), (13, .pointer (some ⟨B16_11, 0, none⟩)), (14, .int .i64 ((Lfu.run u (([] ++ l) ++ m)).2)), (15, .int .i64 (Lfu.runErr u (([] ++ l) ++ m)))] [box B16_11 [.int .i64 (((Lfu.run u (([] ++ l) ++ m)).1).room), .slice a16_6 (((Lfu.run u (([] ++ l) ++ m)).1).list).length c16_6] 24, own tUse S16_6 a16_6 c16_6 (((Lfu.run u (([] ++ l) ++ m)).1).list), own tInt S16_5 a16_5 c16_5 (([] ++ l) ++ m), box B15 [.int .i64 (((Lfu.run ((Lfu.run u l).1) m).1).room), .slice a12 (((Lfu.run ((Lfu.run u l).1) m).1).list).length c13] 24, own tUse S10 a12 c13 (((Lfu.run ((Lfu.run u l).1) m).1).list), box B7 [.int .i64 (((Lfu.run u l).1).room), .slice a4 (((Lfu.run u l).1).list).length c5] 24, own tUse S2 a4 c5 (((Lfu.run u l).1).list), box B1 [.int .i64 u.room, .slice au_0 u.list.length cu_0] 24, base w0]
    refine q_know (fun w hw => own_len (i := 1) (T := tUse) hw rfl) (fun hlr18 => ?_)
    refine q_then ?_
    refine c_seq ?_
    refine c_seq ?_
    refine c_region ?_
    refine o_pure (p_move (v := .int .i64 (Lfu.runErr ((Lfu.run u l).1) m)) rfl) rfl rfl rfl ?_
    refine o_pure (p_ne (p := (Lfu.runErr ((Lfu.run u l).1) m)) (q := 0) rfl rfl) rfl rfl rfl ?_
    refine o_pure (p_move (v := .bool ((Lfu.runErr ((Lfu.run u l).1) m) != 0)) rfl) rfl rfl rfl ?_
    refine o_or (p := 61) 3 ((Lfu.runErr u (([] ++ l) ++ m)) != 0) ?_ ?_ ?_
    · intro hb19 hk
      simp only [bne_eq_false_iff_eq] at hb19
      refine o_unguard 58 rfl rfl ?_
      refine o_pure (p_move (v := .int .i64 (Lfu.runErr u (([] ++ l) ++ m))) rfl) rfl rfl rfl ?_
      refine o_unguard 58 rfl rfl ?_
      refine o_pure (p_ne (p := (Lfu.runErr u (([] ++ l) ++ m))) (q := 0) rfl rfl) rfl rfl rfl ?_
      refine o_pure (p_pick_false (v := .bool ((Lfu.runErr u (([] ++ l) ++ m)) != 0)) rfl rfl) rfl rfl rfl ?_
      exact o_sub (Sub.cons rfl (Sub.skip rfl (Sub.skip rfl (Sub.skip rfl (Sub.skip rfl (Sub.refl _)))))) hk
    · intro hb19 hk
      refine o_guard_no rfl 58 rfl rfl rfl rfl rfl ?_
      refine o_guard_no rfl 58 rfl rfl rfl rfl rfl ?_
      refine o_pure (p_pick_true (u := .bool true) rfl rfl) rfl rfl rfl ?_
      exact o_sub (Sub.cons rfl (Sub.skip rfl (Sub.skip rfl (Sub.skip rfl (Sub.skip rfl (Sub.refl _)))))) hk
    refine o_nil ?_
    refine q_then ?_
    refine c_cond (b := (((Lfu.runErr ((Lfu.run u l).1) m) != 0) || ((Lfu.runErr u (([] ++ l) ++ m)) != 0))) rfl (fun hc20 => ?_) (fun hc20 => ?_)
    · simp only [Bool.or_eq_true, bne_iff_ne, ne_eq] at hc20
      refine c_seq ?_
      refine c_region ?_
      refine o_pure (p_move (v := .int .i64 (Lfu.runErr ((Lfu.run u l).1) m)) rfl) rfl rfl rfl ?_
      refine o_pure (p_move (v := .int .i64 (Lfu.runErr u (([] ++ l) ++ m))) rfl) rfl rfl rfl ?_
      refine o_pure (p_eq (p := (Lfu.runErr ((Lfu.run u l).1) m)) (q := (Lfu.runErr u (([] ++ l) ++ m))) rfl rfl) rfl rfl rfl ?_
      refine o_pure (p_move (v := .bool ((Lfu.runErr ((Lfu.run u l).1) m) == (Lfu.runErr u (([] ++ l) ++ m)))) rfl) rfl rfl rfl ?_
      refine o_or (p := 68) 3 ((Lfu.runErr u (([] ++ l) ++ m)) == 2) ?_ ?_ ?_
      · intro hb21 hk
        simp only [beq_eq_false_iff_ne, ne_eq] at hb21
        refine o_unguard 65 rfl rfl ?_
        refine o_pure (p_move (v := .int .i64 (Lfu.runErr u (([] ++ l) ++ m))) rfl) rfl rfl rfl ?_
        refine o_unguard 65 rfl rfl ?_
        refine o_pure (p_eq (p := (Lfu.runErr u (([] ++ l) ++ m))) (q := 2) rfl rfl) rfl rfl rfl ?_
        refine o_pure (p_pick_false (v := .bool ((Lfu.runErr u (([] ++ l) ++ m)) == 2)) rfl rfl) rfl rfl rfl ?_
        exact o_sub (Sub.cons rfl (Sub.skip rfl (Sub.skip rfl (Sub.skip rfl (Sub.skip rfl (Sub.refl _)))))) hk
      · intro hb21 hk
        refine o_guard_no rfl 65 rfl rfl rfl rfl rfl ?_
        refine o_guard_no rfl 65 rfl rfl rfl rfl rfl ?_
        refine o_pure (p_pick_true (u := .bool true) rfl rfl) rfl rfl rfl ?_
        exact o_sub (Sub.cons rfl (Sub.skip rfl (Sub.skip rfl (Sub.skip rfl (Sub.skip rfl (Sub.refl _)))))) hk
      refine o_pure (p_assign (v := .bool (((Lfu.runErr ((Lfu.run u l).1) m) == (Lfu.runErr u (([] ++ l) ++ m))) || ((Lfu.runErr u (([] ++ l) ++ m)) == 2))) rfl) rfl rfl rfl ?_
      refine o_nil ?_
      refine q_then ?_
      refine c_ret ?_
      refine q_then_ret ?_
      have hr0 : ((((Lfu.runErr ((Lfu.run u l).1) m) == (Lfu.runErr u (([] ++ l) ++ m))) || ((Lfu.runErr u (([] ++ l) ++ m)) == 2)) : Bool) = true := by
        first | exact Lfu.parts_bool3 (by assumption) | exact Lfu.parts_bool2 (by assumption) | (exfalso; have h9 := hag.2 i (by omega) (by omega); omega) | (have hw := wrap_i64 (z := (Lfu.run u l).2 + (Lfu.run (Lfu.run u l).1 m).2) (by omega); rw [hw, hp2, hp3, hp1]; simp; done)
      refine q_end0 (v := .bool (((Lfu.runErr ((Lfu.run u l).1) m) == (Lfu.runErr u (([] ++ l) ++ m))) || ((Lfu.runErr u (([] ++ l) ++ m)) == 2))) (rt1 rfl (r_tmp rfl)) (i := 8) rfl ?_
      exact (by have hcc := congrArg (fun (y0 : Bool) => (.bool y0 : Value)) hr0; exact hcc)
    · simp only [Bool.or_eq_false_iff, bne_eq_false_iff_eq] at hc20
      obtain ⟨hp1, hp2, hp3, hp4, hp5, hp6, hp7⟩ := Lfu.parts_bool (l := l) (m := m) hrun (by simp_all) (by simp_all)
      have hag := Lfu.age_get (Lfu.check_ok.1 hp3)
      refine c_skip ?_
      refine q_then ?_
      refine c_seq ?_
      refine c_region ?_
      refine o_pure (p_load_agg (i := 3) (vs := [.int .i64 (((Lfu.run ((Lfu.run u l).1) m).1).room), .slice a12 (((Lfu.run ((Lfu.run u l).1) m).1).list).length c13]) rfl rfl sh24 rfl rfl) rfl rfl rfl ?_
      refine o_callM rfl (fage_ok ((Lfu.run ((Lfu.run u l).1) m).1) a12 c13) hf17 (fun w hw => (rd_own (i := 4) rfl) w hw) rfl (fun _ _ _ _ ha hA => SlO.agree ha hA) ?_
      rintro ⟨a24, c25⟩ S22
      refine o_know (fun w hw => own_len (i := 0) (T := tUse) hw rfl) (fun hlr26 => ?_)
      refine o_pure (p_move (v := .tuple #[.agg #[.int .i64 ((Lfu.age ((Lfu.run ((Lfu.run u l).1) m).1)).room), .slice a24 ((Lfu.age ((Lfu.run ((Lfu.run u l).1) m).1)).list).length c25], .int .i64 (Lfu.check ((Lfu.run ((Lfu.run u l).1) m).1))]) rfl) rfl rfl rfl ?_
      refine o_pure (p_extract (vs := [.agg #[.int .i64 ((Lfu.age ((Lfu.run ((Lfu.run u l).1) m).1)).room), .slice a24 ((Lfu.age ((Lfu.run ((Lfu.run u l).1) m).1)).list).length c25], .int .i64 (Lfu.check ((Lfu.run ((Lfu.run u l).1) m).1))]) (v := .agg #[.int .i64 ((Lfu.age ((Lfu.run ((Lfu.run u l).1) m).1)).room), .slice a24 ((Lfu.age ((Lfu.run ((Lfu.run u l).1) m).1)).list).length c25]) rfl rfl) rfl rfl rfl ?_
      refine o_pure (p_extract (vs := [.agg #[.int .i64 ((Lfu.age ((Lfu.run ((Lfu.run u l).1) m).1)).room), .slice a24 ((Lfu.age ((Lfu.run ((Lfu.run u l).1) m).1)).list).length c25], .int .i64 (Lfu.check ((Lfu.run ((Lfu.run u l).1) m).1))]) (v := .int .i64 (Lfu.check ((Lfu.run ((Lfu.run u l).1) m).1))) rfl rfl) rfl rfl rfl ?_
      refine o_alloc ze24 rfl (fun B27 => ?_)
      refine o_storeN (i := 0) (vs := [.int .i64 ((Lfu.age ((Lfu.run ((Lfu.run u l).1) m).1)).room), .slice a24 ((Lfu.age ((Lfu.run ((Lfu.run u l).1) m).1)).list).length c25]) (cs' := [.int .i64 ((Lfu.age ((Lfu.run ((Lfu.run u l).1) m).1)).room), .slice a24 ((Lfu.age ((Lfu.run ((Lfu.run u l).1) m).1)).list).length c25]) rfl rfl rfl sz24 rfl rfl rfl rfl ?_
      refine o_pure (p_assign (v := .int .i64 (Lfu.check ((Lfu.run ((Lfu.run u l).1) m).1))) rfl) rfl rfl rfl ?_
      refine o_nil ?_
      refine q_then ?_
      refine c_seq ?_
      refine c_seq ?_
      refine c_region ?_
      refine o_pure (p_assign (v := .int .i64 0) rfl) rfl rfl rfl ?_
      refine o_nil ?_
      refine q_then ?_
      refine c_block ?_
      refine c_loop (St := Nat)
        (fun i => [(8, .int .i64 ((Lfu.run u l).2)), (10, .pointer (some ⟨B15, 0, none⟩)), (11, .int .i64 ((Lfu.run ((Lfu.run u l).1) m).2)), (13, .pointer (some ⟨B16_11, 0, none⟩)), (14, .int .i64 ((Lfu.run u (([] ++ l) ++ m)).2)), (16, .pointer (some ⟨B27, 0, none⟩)), (17, .int .i64 (Lfu.check ((Lfu.run ((Lfu.run u l).1) m).1))), (18, .int .i64 (i : Int))])
        (fun i => [box B27 [.int .i64 ((Lfu.age ((Lfu.run ((Lfu.run u l).1) m).1)).room), .slice a24 ((Lfu.age ((Lfu.run ((Lfu.run u l).1) m).1)).list).length c25] 24, own tUse S22 a24 c25 ((Lfu.age ((Lfu.run ((Lfu.run u l).1) m).1)).list), box B16_11 [.int .i64 (((Lfu.run u (([] ++ l) ++ m)).1).room), .slice a16_6 (((Lfu.run u (([] ++ l) ++ m)).1).list).length c16_6] 24, own tUse S16_6 a16_6 c16_6 (((Lfu.run u (([] ++ l) ++ m)).1).list), own tInt S16_5 a16_5 c16_5 (([] ++ l) ++ m), box B15 [.int .i64 (((Lfu.run ((Lfu.run u l).1) m).1).room), .slice a12 (((Lfu.run ((Lfu.run u l).1) m).1).list).length c13] 24, own tUse S10 a12 c13 (((Lfu.run ((Lfu.run u l).1) m).1).list), box B7 [.int .i64 (((Lfu.run u l).1).room), .slice a4 (((Lfu.run u l).1).list).length c5] 24, own tUse S2 a4 c5 (((Lfu.run u l).1).list), box B1 [.int .i64 u.room, .slice au_0 u.list.length cu_0] 24, base w0])
        (fun i => i ≤ (Lfu.run (Lfu.run u l).1 m).1.list.length)
        (fun i => (Lfu.run (Lfu.run u l).1 m).1.list.length - i)
        0 ?_ (Sub.cons rfl (Sub.cons rfl (Sub.cons rfl (Sub.cons rfl (Sub.cons rfl (Sub.cons rfl (Sub.cons rfl (Sub.cons rfl (Sub.nil _))))))))) (fun _ hw => hw) ?_
      · exact Nat.zero_le _
      rintro i hI K hK28
      show SC _ _ Try.prog 132 w0 _ _ [(8, .int .i64 ((Lfu.run u l).2)), (10, .pointer (some ⟨B15, 0, none⟩)), (11, .int .i64 ((Lfu.run ((Lfu.run u l).1) m).2)), (13, .pointer (some ⟨B16_11, 0, none⟩)), (14, .int .i64 ((Lfu.run u (([] ++ l) ++ m)).2)), (16, .pointer (some ⟨B27, 0, none⟩)), (17, .int .i64 (Lfu.check ((Lfu.run ((Lfu.run u l).1) m).1))), (18, .int .i64 (i : Int))] [box B27 [.int .i64 ((Lfu.age ((Lfu.run ((Lfu.run u l).1) m).1)).room), .slice a24 ((Lfu.age ((Lfu.run ((Lfu.run u l).1) m).1)).list).length c25] 24, own tUse S22 a24 c25 ((Lfu.age ((Lfu.run ((Lfu.run u l).1) m).1)).list), box B16_11 [.int .i64 (((Lfu.run u (([] ++ l) ++ m)).1).room), .slice a16_6 (((Lfu.run u (([] ++ l) ++ m)).1).list).length c16_6] 24, own tUse S16_6 a16_6 c16_6 (((Lfu.run u (([] ++ l) ++ m)).1).list), own tInt S16_5 a16_5 c16_5 (([] ++ l) ++ m), box B15 [.int .i64 (((Lfu.run ((Lfu.run u l).1) m).1).room), .slice a12 (((Lfu.run ((Lfu.run u l).1) m).1).list).length c13] 24, own tUse S10 a12 c13 (((Lfu.run ((Lfu.run u l).1) m).1).list), box B7 [.int .i64 (((Lfu.run u l).1).room), .slice a4 (((Lfu.run u l).1).list).length c5] 24, own tUse S2 a4 c5 (((Lfu.run u l).1).list), box B1 [.int .i64 u.room, .slice au_0 u.list.length cu_0] 24, base w0]
      refine c_seq ?_
      refine c_seq ?_
      refine c_region ?_
      refine o_pure (p_move (v := .int .i64 (i : Int)) rfl) rfl rfl rfl ?_
      refine o_pure (p_fieldAddr (B := B15) (j := 0) (j' := 1) rfl fo24_1 rfl) rfl rfl rfl ?_
      refine o_pure (p_load (i := 5) (v := .slice a12 (((Lfu.run ((Lfu.run u l).1) m).1).list).length c13) rfl rfl sh22 rfl) rfl rfl rfl ?_
      refine o_pure (p_len_slice (len := (((Lfu.run ((Lfu.run u l).1) m).1).list).length) rfl rfl Try.underlying22) rfl rfl rfl ?_
      refine o_pure (p_lt (p := (i : Int)) (q := ((((Lfu.run ((Lfu.run u l).1) m).1).list).length : Int)) rfl rfl) rfl rfl rfl ?_
      refine o_nil ?_
      refine q_then ?_
      refine c_cond (b := decide ((i : Int) < ((((Lfu.run ((Lfu.run u l).1) m).1).list).length : Int))) rfl (fun hc29 => ?_) (fun hc29 => ?_)
      · simp only [decide_eq_true_eq] at hc29
        refine c_skip ?_
        refine q_then ?_
        refine c_seq ?_
        refine c_block ?_
        refine c_seq ?_
        refine c_draw hmix (by kernel_rfl) ?_
        refine w_pure (p_fieldAddr (B := B27) (j := 0) (j' := 1) rfl fo24_1 rfl) rfl rfl rfl ?_
        refine w_pure (p_load (i := 0) (v := .slice a24 ((Lfu.age ((Lfu.run ((Lfu.run u l).1) m).1)).list).length c25) rfl rfl sh22 rfl) rfl rfl rfl ?_
        refine w_pure (p_len_slice (len := ((Lfu.age ((Lfu.run ((Lfu.run u l).1) m).1)).list).length) rfl rfl Try.underlying22) rfl rfl rfl ?_
        refine w_pure (p_fieldAddr (B := B15) (j := 0) (j' := 1) rfl fo24_1 rfl) rfl rfl rfl ?_
        refine w_pure (p_load (i := 5) (v := .slice a12 (((Lfu.run ((Lfu.run u l).1) m).1).list).length c13) rfl rfl sh22 rfl) rfl rfl rfl ?_
        refine w_pure (p_len_slice (len := (((Lfu.run ((Lfu.run u l).1) m).1).list).length) rfl rfl Try.underlying22) rfl rfl rfl ?_
        refine w_pure (p_ne (p := (((Lfu.age ((Lfu.run ((Lfu.run u l).1) m).1)).list).length : Int)) (q := ((((Lfu.run ((Lfu.run u l).1) m).1).list).length : Int)) rfl rfl) rfl rfl rfl ?_
        refine w_pure (p_move (v := .bool ((((Lfu.age ((Lfu.run ((Lfu.run u l).1) m).1)).list).length : Int) != ((((Lfu.run ((Lfu.run u l).1) m).1).list).length : Int))) rfl) rfl rfl rfl ?_
        refine w_or (p := 102) 14 ((((Lfu.age ((Lfu.run ((Lfu.run u l).1) m).1)).list)[i]).key != ((((Lfu.run ((Lfu.run u l).1) m).1).list)[i]).key) ?_ ?_ ?_
        · intro hb30 hk
          simp only [bne_eq_false_iff_eq] at hb30
          refine w_unguard 88 rfl rfl ?_
          refine w_pure (p_fieldAddr (B := B27) (j := 0) (j' := 1) rfl fo24_1 rfl) rfl rfl rfl ?_
          refine w_unguard 88 rfl rfl ?_
          refine w_pure (p_load (i := 0) (v := .slice a24 ((Lfu.age ((Lfu.run ((Lfu.run u l).1) m).1)).list).length c25) rfl rfl sh22 rfl) rfl rfl rfl ?_
          refine w_unguard 88 rfl rfl ?_
          refine w_pure (p_move (v := .int .i64 (i : Int)) rfl) rfl rfl rfl ?_
          refine w_unguard 88 rfl rfl ?_
          refine w_pure (p_indexAddr (L := (Lfu.age ((Lfu.run ((Lfu.run u l).1) m).1)).list) (T := tUse) (i := (i : Int)) rfl rfl (rd_own (i := 1) rfl) Try.underlying22 sz42 (by omega) (by omega)) rfl rfl rfl ?_
          refine w_unguard 88 rfl rfl ?_
          refine w_pure (p_fieldAddrE rfl fo42_0) rfl rfl rfl ?_
          refine w_unguard 88 rfl rfl ?_
          refine w_pure (p_loadF (i := i) (j := 0) (T := tUse) (L := (Lfu.age ((Lfu.run ((Lfu.run u l).1) m).1)).list) (v := .int .i64 ((((Lfu.age ((Lfu.run ((Lfu.run u l).1) m).1)).list)[i]).key)) rfl (rd_own (i := 1) rfl) (by first | assumption | omega) sh3 rfl) rfl rfl rfl ?_
          refine w_unguard 88 rfl rfl ?_
          refine w_pure (p_fieldAddr (B := B15) (j := 0) (j' := 1) rfl fo24_1 rfl) rfl rfl rfl ?_
          refine w_unguard 88 rfl rfl ?_
          refine w_pure (p_load (i := 5) (v := .slice a12 (((Lfu.run ((Lfu.run u l).1) m).1).list).length c13) rfl rfl sh22 rfl) rfl rfl rfl ?_
          refine w_unguard 88 rfl rfl ?_
          refine w_pure (p_move (v := .int .i64 (i : Int)) rfl) rfl rfl rfl ?_
          refine w_unguard 88 rfl rfl ?_
          refine w_pure (p_indexAddr (L := ((Lfu.run ((Lfu.run u l).1) m).1).list) (T := tUse) (i := (i : Int)) rfl rfl (rd_own (i := 6) rfl) Try.underlying22 sz42 (by omega) (by omega)) rfl rfl rfl ?_
          refine w_unguard 88 rfl rfl ?_
          refine w_pure (p_fieldAddrE rfl fo42_0) rfl rfl rfl ?_
          refine w_unguard 88 rfl rfl ?_
          refine w_pure (p_loadF (i := i) (j := 0) (T := tUse) (L := ((Lfu.run ((Lfu.run u l).1) m).1).list) (v := .int .i64 (((((Lfu.run ((Lfu.run u l).1) m).1).list)[i]).key)) rfl (rd_own (i := 6) rfl) (by first | assumption | omega) sh3 rfl) rfl rfl rfl ?_
          refine w_unguard 88 rfl rfl ?_
          refine w_pure (p_ne (p := (((Lfu.age ((Lfu.run ((Lfu.run u l).1) m).1)).list)[i]).key) (q := ((((Lfu.run ((Lfu.run u l).1) m).1).list)[i]).key) rfl rfl) rfl rfl rfl ?_
          refine w_pure (p_pick_false (v := .bool ((((Lfu.age ((Lfu.run ((Lfu.run u l).1) m).1)).list)[i]).key != ((((Lfu.run ((Lfu.run u l).1) m).1).list)[i]).key)) rfl rfl) rfl rfl rfl ?_
          exact w_sub (Sub.cons rfl (Sub.skip rfl (Sub.skip rfl (Sub.skip rfl (Sub.skip rfl (Sub.skip rfl (Sub.skip rfl (Sub.skip rfl (Sub.skip rfl (Sub.skip rfl (Sub.skip rfl (Sub.skip rfl (Sub.skip rfl (Sub.skip rfl (Sub.skip rfl (Sub.skip rfl (Sub.refl _))))))))))))))))) hk
        · intro hb30 hk
          refine w_guard_no rfl 88 rfl rfl rfl rfl rfl ?_
          refine w_guard_no rfl 88 rfl rfl rfl rfl rfl ?_
          refine w_guard_no rfl 88 rfl rfl rfl rfl rfl ?_
          refine w_guard_no rfl 88 rfl rfl rfl rfl rfl ?_
          refine w_guard_no rfl 88 rfl rfl rfl rfl rfl ?_
          refine w_guard_no rfl 88 rfl rfl rfl rfl rfl ?_
          refine w_guard_no rfl 88 rfl rfl rfl rfl rfl ?_
          refine w_guard_no rfl 88 rfl rfl rfl rfl rfl ?_
          refine w_guard_no rfl 88 rfl rfl rfl rfl rfl ?_
          refine w_guard_no rfl 88 rfl rfl rfl rfl rfl ?_
          refine w_guard_no rfl 88 rfl rfl rfl rfl rfl ?_
          refine w_guard_no rfl 88 rfl rfl rfl rfl rfl ?_
          refine w_guard_no rfl 88 rfl rfl rfl rfl rfl ?_
          refine w_pure (p_pick_true (u := .bool true) rfl rfl) rfl rfl rfl ?_
          exact w_sub (Sub.cons rfl (Sub.skip rfl (Sub.skip rfl (Sub.skip rfl (Sub.skip rfl (Sub.skip rfl (Sub.skip rfl (Sub.skip rfl (Sub.skip rfl (Sub.skip rfl (Sub.skip rfl (Sub.skip rfl (Sub.skip rfl (Sub.skip rfl (Sub.skip rfl (Sub.skip rfl (Sub.refl _))))))))))))))))) hk
        refine w_pure (p_move (v := .bool (((((Lfu.age ((Lfu.run ((Lfu.run u l).1) m).1)).list).length : Int) != ((((Lfu.run ((Lfu.run u l).1) m).1).list).length : Int)) || ((((Lfu.age ((Lfu.run ((Lfu.run u l).1) m).1)).list)[i]).key != ((((Lfu.run ((Lfu.run u l).1) m).1).list)[i]).key))) rfl) rfl rfl rfl ?_
        refine w_or (p := 117) 14 (decide (((((Lfu.run ((Lfu.run u l).1) m).1).list)[i]).count < (((Lfu.age ((Lfu.run ((Lfu.run u l).1) m).1)).list)[i]).count)) ?_ ?_ ?_
        · intro hb31 hk
          simp only [Bool.or_eq_false_iff, bne_eq_false_iff_eq] at hb31
          refine w_unguard 103 rfl rfl ?_
          refine w_pure (p_fieldAddr (B := B27) (j := 0) (j' := 1) rfl fo24_1 rfl) rfl rfl rfl ?_
          refine w_unguard 103 rfl rfl ?_
          refine w_pure (p_load (i := 0) (v := .slice a24 ((Lfu.age ((Lfu.run ((Lfu.run u l).1) m).1)).list).length c25) rfl rfl sh22 rfl) rfl rfl rfl ?_
          refine w_unguard 103 rfl rfl ?_
          refine w_pure (p_move (v := .int .i64 (i : Int)) rfl) rfl rfl rfl ?_
          refine w_unguard 103 rfl rfl ?_
          refine w_pure (p_indexAddr (L := (Lfu.age ((Lfu.run ((Lfu.run u l).1) m).1)).list) (T := tUse) (i := (i : Int)) rfl rfl (rd_own (i := 1) rfl) Try.underlying22 sz42 (by omega) (by omega)) rfl rfl rfl ?_
          refine w_unguard 103 rfl rfl ?_
          refine w_pure (p_fieldAddrE rfl fo42_1) rfl rfl rfl ?_
          refine w_unguard 103 rfl rfl ?_
          refine w_pure (p_loadF (i := i) (j := 1) (T := tUse) (L := (Lfu.age ((Lfu.run ((Lfu.run u l).1) m).1)).list) (v := .int .i64 ((((Lfu.age ((Lfu.run ((Lfu.run u l).1) m).1)).list)[i]).count)) rfl (rd_own (i := 1) rfl) (by first | assumption | omega) sh3 rfl) rfl rfl rfl ?_
          refine w_unguard 103 rfl rfl ?_
          refine w_pure (p_fieldAddr (B := B15) (j := 0) (j' := 1) rfl fo24_1 rfl) rfl rfl rfl ?_
          refine w_unguard 103 rfl rfl ?_
          refine w_pure (p_load (i := 5) (v := .slice a12 (((Lfu.run ((Lfu.run u l).1) m).1).list).length c13) rfl rfl sh22 rfl) rfl rfl rfl ?_
          refine w_unguard 103 rfl rfl ?_
          refine w_pure (p_move (v := .int .i64 (i : Int)) rfl) rfl rfl rfl ?_
          refine w_unguard 103 rfl rfl ?_
          refine w_pure (p_indexAddr (L := ((Lfu.run ((Lfu.run u l).1) m).1).list) (T := tUse) (i := (i : Int)) rfl rfl (rd_own (i := 6) rfl) Try.underlying22 sz42 (by omega) (by omega)) rfl rfl rfl ?_
          refine w_unguard 103 rfl rfl ?_
          refine w_pure (p_fieldAddrE rfl fo42_1) rfl rfl rfl ?_
          refine w_unguard 103 rfl rfl ?_
          refine w_pure (p_loadF (i := i) (j := 1) (T := tUse) (L := ((Lfu.run ((Lfu.run u l).1) m).1).list) (v := .int .i64 (((((Lfu.run ((Lfu.run u l).1) m).1).list)[i]).count)) rfl (rd_own (i := 6) rfl) (by first | assumption | omega) sh3 rfl) rfl rfl rfl ?_
          refine w_unguard 103 rfl rfl ?_
          refine w_pure (p_gt (p := (((Lfu.age ((Lfu.run ((Lfu.run u l).1) m).1)).list)[i]).count) (q := ((((Lfu.run ((Lfu.run u l).1) m).1).list)[i]).count) rfl rfl) rfl rfl rfl ?_
          refine w_pure (p_pick_false (v := .bool (decide (((((Lfu.run ((Lfu.run u l).1) m).1).list)[i]).count < (((Lfu.age ((Lfu.run ((Lfu.run u l).1) m).1)).list)[i]).count))) rfl rfl) rfl rfl rfl ?_
          exact w_sub (Sub.cons rfl (Sub.skip rfl (Sub.skip rfl (Sub.skip rfl (Sub.skip rfl (Sub.skip rfl (Sub.skip rfl (Sub.skip rfl (Sub.skip rfl (Sub.skip rfl (Sub.skip rfl (Sub.skip rfl (Sub.skip rfl (Sub.skip rfl (Sub.skip rfl (Sub.skip rfl (Sub.refl _))))))))))))))))) hk
        · intro hb31 hk
          refine w_guard_no rfl 103 rfl rfl rfl rfl rfl ?_
          refine w_guard_no rfl 103 rfl rfl rfl rfl rfl ?_
          refine w_guard_no rfl 103 rfl rfl rfl rfl rfl ?_
          refine w_guard_no rfl 103 rfl rfl rfl rfl rfl ?_
          refine w_guard_no rfl 103 rfl rfl rfl rfl rfl ?_
          refine w_guard_no rfl 103 rfl rfl rfl rfl rfl ?_
          refine w_guard_no rfl 103 rfl rfl rfl rfl rfl ?_
          refine w_guard_no rfl 103 rfl rfl rfl rfl rfl ?_
          refine w_guard_no rfl 103 rfl rfl rfl rfl rfl ?_
          refine w_guard_no rfl 103 rfl rfl rfl rfl rfl ?_
          refine w_guard_no rfl 103 rfl rfl rfl rfl rfl ?_
          refine w_guard_no rfl 103 rfl rfl rfl rfl rfl ?_
          refine w_guard_no rfl 103 rfl rfl rfl rfl rfl ?_
          refine w_pure (p_pick_true (u := .bool true) rfl rfl) rfl rfl rfl ?_
          exact w_sub (Sub.cons rfl (Sub.skip rfl (Sub.skip rfl (Sub.skip rfl (Sub.skip rfl (Sub.skip rfl (Sub.skip rfl (Sub.skip rfl (Sub.skip rfl (Sub.skip rfl (Sub.skip rfl (Sub.skip rfl (Sub.skip rfl (Sub.skip rfl (Sub.skip rfl (Sub.skip rfl (Sub.refl _))))))))))))))))) hk
        refine w_nil ?_
        refine q_then ?_
        refine c_cond (b := ((((((Lfu.age ((Lfu.run ((Lfu.run u l).1) m).1)).list).length : Int) != ((((Lfu.run ((Lfu.run u l).1) m).1).list).length : Int)) || ((((Lfu.age ((Lfu.run ((Lfu.run u l).1) m).1)).list)[i]).key != ((((Lfu.run ((Lfu.run u l).1) m).1).list)[i]).key)) || decide (((((Lfu.run ((Lfu.run u l).1) m).1).list)[i]).count < (((Lfu.age ((Lfu.run ((Lfu.run u l).1) m).1)).list)[i]).count))) rfl (fun hc32 => ?_) (fun hc32 => ?_)
        · simp only [Bool.or_eq_true, bne_iff_ne, ne_eq, decide_eq_true_eq] at hc32
          refine c_seq ?_
          refine c_region ?_
          refine o_pure (p_assign (v := .bool false) rfl) rfl rfl rfl ?_
          refine o_nil ?_
          refine q_then ?_
          refine c_ret ?_
          refine q_block_ret (q_then_ret (q_then_ret (q_block_ret (q_then_ret ?_))))
          have hr0 : (false : Bool) = true := by
            first | exact Lfu.parts_bool3 (by assumption) | exact Lfu.parts_bool2 (by assumption) | (exfalso; have h9 := hag.2 i (by omega) (by omega); omega) | (have hw := wrap_i64 (z := (Lfu.run u l).2 + (Lfu.run (Lfu.run u l).1 m).2) (by omega); rw [hw, hp2, hp3, hp1]; simp; done)
          refine q_end0 (v := .bool false) (rt1 rfl (r_tmp rfl)) (i := 10) rfl ?_
          exact (by have hcc := congrArg (fun (y0 : Bool) => (.bool y0 : Value)) hr0; exact hcc)
        · simp only [Bool.or_eq_false_iff, bne_eq_false_iff_eq, decide_eq_false_iff_not, Int.not_lt] at hc32
          refine c_skip ?_
          refine q_block_normal (q_then ?_)
          refine c_region ?_
          refine o_pure (p_move (v := .int .i64 (i : Int)) rfl) rfl rfl rfl ?_
          refine o_pure (p_addb (p := (i : Int)) (q := 1) rfl rfl (by omega)) rfl rfl rfl ?_
          refine o_pure (p_assign (v := .int .i64 ((i : Int) + 1)) rfl) rfl rfl rfl ?_
          refine o_nil ?_
          refine q_round hK28 (i + 1) ?_ ?_ ?_ ?_
          · clear hK28
            omega
          · (try dsimp only); omega
          · exact Sub.cons rfl (Sub.cons rfl (Sub.cons rfl (Sub.cons rfl (Sub.cons rfl (Sub.cons rfl (Sub.cons rfl (Sub.cons rfl (Sub.nil _))))))))
          · exact fun _ hw => HeapIs.pick hw [0, 1, 2, 3, 4, 5, 6, 7, 8, 9, 10] (by decide) rfl
      · simp only [decide_eq_false_iff_not, Int.not_lt] at hc29
        refine c_exit ?_
        refine q_then_exit (q_then_exit (q_block_exit (q_then ?_)))
        refine c_seq ?_
        refine c_region ?_
        refine o_pure (p_load_agg (i := 5) (vs := [.int .i64 (((Lfu.run ((Lfu.run u l).1) m).1).room), .slice a12 (((Lfu.run ((Lfu.run u l).1) m).1).list).length c13]) rfl rfl sh24 rfl rfl) rfl rfl rfl ?_
        refine o_pure (p_load_agg (i := 2) (vs := [.int .i64 (((Lfu.run u (([] ++ l) ++ m)).1).room), .slice a16_6 (((Lfu.run u (([] ++ l) ++ m)).1).list).length c16_6]) rfl rfl sh24 rfl rfl) rfl rfl rfl ?_
        refine o_call0 (v := .bool (decide (((Lfu.run ((Lfu.run u l).1) m).1) = ((Lfu.run u (([] ++ l) ++ m)).1)))) rfl (sameUses_ok ((Lfu.run ((Lfu.run u l).1) m).1) a12 c13 ((Lfu.run u (([] ++ l) ++ m)).1) a16_6 c16_6) hf26 (fun w hw => ⟨(rd_own (i := 6) rfl) w hw, (rd_own (i := 3) rfl) w hw⟩) rfl ?_
        refine o_pure (p_move (v := .bool (decide (((Lfu.run ((Lfu.run u l).1) m).1) = ((Lfu.run u (([] ++ l) ++ m)).1)))) rfl) rfl rfl rfl ?_
        refine o_and (p := 127) 6 (((Lfu.run u (([] ++ l) ++ m)).2) == (IntKind.i64.wrap (((Lfu.run u l).2) + ((Lfu.run ((Lfu.run u l).1) m).2)))) ?_ ?_ ?_
        · intro hb33 hk
          simp only [decide_eq_true_eq] at hb33
          refine o_unguard 121 rfl rfl ?_
          refine o_pure (p_move (v := .int .i64 ((Lfu.run u (([] ++ l) ++ m)).2)) rfl) rfl rfl rfl ?_
          refine o_unguard 121 rfl rfl ?_
          refine o_pure (p_move (v := .int .i64 ((Lfu.run u l).2)) rfl) rfl rfl rfl ?_
          refine o_unguard 121 rfl rfl ?_
          refine o_pure (p_move (v := .int .i64 ((Lfu.run ((Lfu.run u l).1) m).2)) rfl) rfl rfl rfl ?_
          refine o_unguard 121 rfl rfl ?_
          refine o_pure (p_add (p := ((Lfu.run u l).2)) (q := ((Lfu.run ((Lfu.run u l).1) m).2)) rfl rfl) rfl rfl rfl ?_
          refine o_unguard 121 rfl rfl ?_
          refine o_pure (p_eq (p := ((Lfu.run u (([] ++ l) ++ m)).2)) (q := (IntKind.i64.wrap (((Lfu.run u l).2) + ((Lfu.run ((Lfu.run u l).1) m).2)))) rfl rfl) rfl rfl rfl ?_
          refine o_pure (p_pick_true (u := .bool (((Lfu.run u (([] ++ l) ++ m)).2) == (IntKind.i64.wrap (((Lfu.run u l).2) + ((Lfu.run ((Lfu.run u l).1) m).2))))) rfl rfl) rfl rfl rfl ?_
          exact o_sub (Sub.cons rfl (Sub.skip rfl (Sub.skip rfl (Sub.skip rfl (Sub.skip rfl (Sub.skip rfl (Sub.skip rfl (Sub.skip rfl (Sub.refl _))))))))) hk
        · intro hb33 hk
          refine o_guard_no rfl 121 rfl rfl rfl rfl rfl ?_
          refine o_guard_no rfl 121 rfl rfl rfl rfl rfl ?_
          refine o_guard_no rfl 121 rfl rfl rfl rfl rfl ?_
          refine o_guard_no rfl 121 rfl rfl rfl rfl rfl ?_
          refine o_guard_no rfl 121 rfl rfl rfl rfl rfl ?_
          refine o_pure (p_pick_false (v := .bool false) rfl rfl) rfl rfl rfl ?_
          exact o_sub (Sub.cons rfl (Sub.skip rfl (Sub.skip rfl (Sub.skip rfl (Sub.skip rfl (Sub.skip rfl (Sub.skip rfl (Sub.skip rfl (Sub.refl _))))))))) hk
        refine o_pure (p_move (v := .bool ((decide (((Lfu.run ((Lfu.run u l).1) m).1) = ((Lfu.run u (([] ++ l) ++ m)).1))) && (((Lfu.run u (([] ++ l) ++ m)).2) == (IntKind.i64.wrap (((Lfu.run u l).2) + ((Lfu.run ((Lfu.run u l).1) m).2)))))) rfl) rfl rfl rfl ?_
        refine o_and (p := 131) 3 ((Lfu.check ((Lfu.run ((Lfu.run u l).1) m).1)) == 0) ?_ ?_ ?_
        · intro hb34 hk
          simp only [Bool.and_eq_true, decide_eq_true_eq, beq_iff_eq] at hb34
          refine o_unguard 128 rfl rfl ?_
          refine o_pure (p_move (v := .int .i64 (Lfu.check ((Lfu.run ((Lfu.run u l).1) m).1))) rfl) rfl rfl rfl ?_
          refine o_unguard 128 rfl rfl ?_
          refine o_pure (p_eq (p := (Lfu.check ((Lfu.run ((Lfu.run u l).1) m).1))) (q := 0) rfl rfl) rfl rfl rfl ?_
          refine o_pure (p_pick_true (u := .bool ((Lfu.check ((Lfu.run ((Lfu.run u l).1) m).1)) == 0)) rfl rfl) rfl rfl rfl ?_
          exact o_sub (Sub.cons rfl (Sub.skip rfl (Sub.skip rfl (Sub.skip rfl (Sub.skip rfl (Sub.refl _)))))) hk
        · intro hb34 hk
          refine o_guard_no rfl 128 rfl rfl rfl rfl rfl ?_
          refine o_guard_no rfl 128 rfl rfl rfl rfl rfl ?_
          refine o_pure (p_pick_false (v := .bool false) rfl rfl) rfl rfl rfl ?_
          exact o_sub (Sub.cons rfl (Sub.skip rfl (Sub.skip rfl (Sub.skip rfl (Sub.skip rfl (Sub.refl _)))))) hk
        refine o_pure (p_assign (v := .bool (((decide (((Lfu.run ((Lfu.run u l).1) m).1) = ((Lfu.run u (([] ++ l) ++ m)).1))) && (((Lfu.run u (([] ++ l) ++ m)).2) == (IntKind.i64.wrap (((Lfu.run u l).2) + ((Lfu.run ((Lfu.run u l).1) m).2))))) && ((Lfu.check ((Lfu.run ((Lfu.run u l).1) m).1)) == 0))) rfl) rfl rfl rfl ?_
        refine o_nil ?_
        refine q_then ?_
        refine c_ret ?_
        have hr0 : ((((decide (((Lfu.run ((Lfu.run u l).1) m).1) = ((Lfu.run u (([] ++ l) ++ m)).1))) && (((Lfu.run u (([] ++ l) ++ m)).2) == (IntKind.i64.wrap (((Lfu.run u l).2) + ((Lfu.run ((Lfu.run u l).1) m).2))))) && ((Lfu.check ((Lfu.run ((Lfu.run u l).1) m).1)) == 0)) : Bool) = true := by
          first | exact Lfu.parts_bool3 (by assumption) | exact Lfu.parts_bool2 (by assumption) | (exfalso; have h9 := hag.2 i (by omega) (by omega); omega) | (have hw := wrap_i64 (z := (Lfu.run u l).2 + (Lfu.run (Lfu.run u l).1 m).2) (by omega); rw [hw, hp2, hp3, hp1]; simp; done)
        refine q_end0 (v := .bool (((decide (((Lfu.run ((Lfu.run u l).1) m).1) = ((Lfu.run u (([] ++ l) ++ m)).1))) && (((Lfu.run u (([] ++ l) ++ m)).2) == (IntKind.i64.wrap (((Lfu.run u l).2) + ((Lfu.run ((Lfu.run u l).1) m).2))))) && ((Lfu.check ((Lfu.run ((Lfu.run u l).1) m).1)) == 0))) (rt1 rfl (r_tmp rfl)) (i := 10) rfl ?_
        exact (by have hcc := congrArg (fun (y0 : Bool) => (.bool y0 : Value)) hr0; exact hcc)
end Go.Proofs.Ytagbihjkdejdjaa
