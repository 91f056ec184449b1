/- The walks, printed by a program from the translation and a specification. -/
import Derived.Test.YthbfdhphnofacadLdF
import Derived.Test.YthbfdhphnofacadLrLaw2
import Derived.Test.YthbfdhphnofacadLdW5
namespace Go.Proofs.Ythbfdhphnofacad
open Go.Sx Go.RowKit
set_option maxHeartbeats 8000000 in
set_option maxRecDepth 100000 in
theorem lruRecent_ok (c : DCache) (ac_0 : Option Addr) (cc_0 : Nat) (l : List Int) (al : Option Addr) (cl : Nat) (key : Int) : Fn0 Try.prog 5 [.agg #[.int .i64 c.room, .slice ac_0 c.keys.length cc_0], .slice al l.length cl, .int .i64 key] (fun w => Rd tInt w ac_0 cc_0 c.keys ∧ Rd tInt w al cl l) (.bool true) := by
  refine fn0 (nt := 120) (F0 := [(0, .agg #[.int .i64 c.room, .slice ac_0 c.keys.length cc_0]), (1, .slice al l.length cl), (2, .int .i64 key)]) Try.func5 rfl Try.ntmps5 rfl rfl (fun w0 hpre => ?_)
  obtain ⟨hc_0, hl⟩ := hpre
  have hlhc_0 := hc_0.2.1
  have hlhl := hl.2.1
  refine c_seq ?_
  refine c_region ?_
  refine o_box (v := .agg #[.int .i64 c.room, .slice ac_0 c.keys.length cc_0]) rfl rfl (fun B1 => ?_)
  refine o_pure (p_assign (v := .bool false) rfl) rfl rfl rfl ?_
  refine o_nil ?_
  refine q_then ?_
  refine c_seq ?_
  refine c_region ?_
  refine o_pure (p_load_agg (i := 0) (vs := [.int .i64 c.room, .slice ac_0 c.keys.length cc_0]) rfl rfl sh24 rfl rfl) rfl rfl rfl ?_
  refine o_pure (p_move (v := .slice al l.length cl) rfl) rfl rfl rfl ?_
  refine o_callM rfl (lrun_ok c ac_0 cc_0 l al cl) hf15 (fun w hw => ⟨(rd_base (i := 1) rfl hc_0) w hw, (rd_base (i := 1) rfl hl) w hw⟩) rfl (fun _ _ _ _ ha hA => SlO.agree ha hA) ?_
  rintro ⟨a4, c5⟩ S2
  refine o_know (fun w hw => own_len (i := 0) (T := tInt) hw rfl) (fun hlr6 => ?_)
  refine o_pure (p_move (v := .tuple #[.agg #[.int .i64 (((Lru.run c l).1).room), .slice a4 (((Lru.run c l).1).keys).length c5], .int .i64 ((Lru.run c l).2), .int .i64 (Lru.runErr c l)]) rfl) rfl rfl rfl ?_
  refine o_pure (p_extract (vs := [.agg #[.int .i64 (((Lru.run c l).1).room), .slice a4 (((Lru.run c l).1).keys).length c5], .int .i64 ((Lru.run c l).2), .int .i64 (Lru.runErr c l)]) (v := .agg #[.int .i64 (((Lru.run c l).1).room), .slice a4 (((Lru.run c l).1).keys).length c5]) rfl rfl) rfl rfl rfl ?_
  refine o_pure (p_extract (vs := [.agg #[.int .i64 (((Lru.run c l).1).room), .slice a4 (((Lru.run c l).1).keys).length c5], .int .i64 ((Lru.run c l).2), .int .i64 (Lru.runErr c l)]) (v := .int .i64 ((Lru.run c l).2)) rfl rfl) rfl rfl rfl ?_
  refine o_pure (p_extract (vs := [.agg #[.int .i64 (((Lru.run c l).1).room), .slice a4 (((Lru.run c l).1).keys).length c5], .int .i64 ((Lru.run c l).2), .int .i64 (Lru.runErr c l)]) (v := .int .i64 (Lru.runErr c l)) rfl rfl) rfl rfl rfl ?_
  refine o_alloc ze24 rfl (fun B7 => ?_)
  refine o_storeN (i := 0) (vs := [.int .i64 (((Lru.run c l).1).room), .slice a4 (((Lru.run c l).1).keys).length c5]) (cs' := [.int .i64 (((Lru.run c l).1).room), .slice a4 (((Lru.run c l).1).keys).length c5]) rfl rfl rfl sz24 rfl rfl rfl rfl ?_
  refine o_pure (p_assign (v := .int .i64 ((Lru.run c l).2)) rfl) rfl rfl rfl ?_
  refine o_pure (p_assign (v := .int .i64 (Lru.runErr c l)) rfl) rfl rfl rfl ?_
  refine o_nil ?_
  refine q_then ?_
  refine c_seq ?_
  refine c_seq ?_
  refine c_region ?_
  refine o_call0 (v := .bool true) rfl (lruBegun_ok ) hf16 (fun _ _ => trivial) rfl ?_
  refine o_pure (p_not (b := true) rfl) rfl rfl rfl ?_
  refine o_nil ?_
  refine q_then ?_
  refine c_false rfl ?_
  refine c_skip ?_
  refine q_then ?_
  refine c_seq ?_
  refine c_seq ?_
  refine c_region ?_
  refine o_pure (p_move (v := .int .i64 (Lru.runErr c l)) rfl) rfl rfl rfl ?_
  refine o_pure (p_ne (p := (Lru.runErr c l)) (q := 0) rfl rfl) rfl rfl rfl ?_
  refine o_nil ?_
  refine q_then ?_
  refine c_cond (b := ((Lru.runErr c l) != 0)) rfl (fun hc8 => ?_) (fun hc8 => ?_)
  · simp only [bne_iff_ne, ne_eq] at hc8
    refine c_seq ?_
    refine c_region ?_
    refine o_pure (p_fieldAddr (B := B7) (j := 0) (j' := 1) rfl fo24_1 rfl) rfl rfl rfl ?_
    refine o_pure (p_load (i := 0) (v := .slice a4 (((Lru.run c l).1).keys).length c5) rfl rfl sh22 rfl) rfl rfl rfl ?_
    refine o_pure (p_len_slice (len := (((Lru.run c l).1).keys).length) rfl rfl Try.underlying22) rfl rfl rfl ?_
    refine o_pure (p_eq (p := ((((Lru.run c l).1).keys).length : Int)) (q := 0) rfl rfl) rfl rfl rfl ?_
    refine o_pure (p_assign (v := .bool (((((Lru.run c l).1).keys).length : Int) == 0)) rfl) rfl rfl rfl ?_
    refine o_nil ?_
    refine q_then ?_
    refine c_ret ?_
    refine q_then_ret ?_
    have hr0 : ((((((Lru.run c l).1).keys).length : Int) == 0) : Bool) = true := by
      first | rfl | (rw [Lru.run_bad (by assumption)]; rfl) | exact decide_eq_true (Lru.run_nil hrun (by omega)) | (obtain ⟨r1, r2, r3, r4, r5⟩ := Lru.recent (j := l.length - 1) hrun (by omega); simp [r1, r2, r3, r4, Ref.sameInts]; omega)
    refine q_end0 (v := .bool (((((Lru.run c l).1).keys).length : Int) == 0)) (rt1 rfl (r_tmp rfl)) (i := 3) rfl ?_
    exact (by have hcc := congrArg (fun (y0 : Bool) => (.bool y0 : Value)) hr0; exact hcc)
  · simp only [bne_eq_false_iff_eq] at hc8
    have hrun := hc8
    refine c_skip ?_
    refine q_then ?_
    refine c_seq ?_
    refine c_seq ?_
    refine c_region ?_
    refine o_pure (p_assign (v := .int .i64 0) rfl) rfl rfl rfl ?_
    refine o_nil ?_
    refine q_then ?_
    refine c_block ?_
    refine c_loop (St := Nat)
      (fun i => [(1, .slice al l.length cl), (3, .pointer (some ⟨B1, 0, none⟩)), (7, .pointer (some ⟨B7, 0, none⟩)), (10, .int .i64 (i : Int))])
      (fun i => [box B7 [.int .i64 (((Lru.run c l).1).room), .slice a4 (((Lru.run c l).1).keys).length c5] 24, own tInt S2 a4 c5 (((Lru.run c l).1).keys), box B1 [.int .i64 c.room, .slice ac_0 c.keys.length cc_0] 24, base w0])
      (fun i => i ≤ (Lru.run c l).1.keys.length)
      (fun i => (Lru.run c l).1.keys.length - i)
      0 ?_ (Sub.cons rfl (Sub.cons rfl (Sub.cons rfl (Sub.cons rfl (Sub.nil _))))) (fun _ hw => hw) ?_
    · exact Nat.zero_le _
    rintro i hI K hK9
    show SC _ _ Try.prog 120 w0 _ _ [(1, .slice al l.length cl), (3, .pointer (some ⟨B1, 0, none⟩)), (7, .pointer (some ⟨B7, 0, none⟩)), (10, .int .i64 (i : Int))] [box B7 [.int .i64 (((Lru.run c l).1).room), .slice a4 (((Lru.run c l).1).keys).length c5] 24, own tInt S2 a4 c5 (((Lru.run c l).1).keys), box B1 [.int .i64 c.room, .slice ac_0 c.keys.length cc_0] 24, base w0]
    refine c_seq ?_
    refine c_seq ?_
    refine c_region ?_
    refine o_pure (p_move (v := .int .i64 (i : Int)) rfl) rfl rfl rfl ?_
    refine o_pure (p_fieldAddr (B := B7) (j := 0) (j' := 1) rfl fo24_1 rfl) rfl rfl rfl ?_
    refine o_pure (p_load (i := 0) (v := .slice a4 (((Lru.run c l).1).keys).length c5) rfl rfl sh22 rfl) rfl rfl rfl ?_
    refine o_pure (p_len_slice (len := (((Lru.run c l).1).keys).length) rfl rfl Try.underlying22) rfl rfl rfl ?_
    refine o_pure (p_lt (p := (i : Int)) (q := ((((Lru.run c l).1).keys).length : Int)) rfl rfl) rfl rfl rfl ?_
    refine o_nil ?_
    refine q_then ?_
    refine c_cond (b := decide ((i : Int) < ((((Lru.run c l).1).keys).length : Int))) rfl (fun hc10 => ?_) (fun hc10 => ?_)
    · simp only [decide_eq_true_eq] at hc10
      refine c_skip ?_
      refine q_then ?_
      refine c_seq ?_
      refine c_block ?_
      refine c_seq ?_
      refine c_draw hmix (by kernel_rfl) ?_
      refine w_pure (p_fieldAddr (B := B1) (j := 0) (j' := 1) rfl fo24_1 rfl) rfl rfl rfl ?_
      refine w_pure (p_load (i := 2) (v := .slice ac_0 c.keys.length cc_0) rfl rfl sh22 rfl) rfl rfl rfl ?_
      refine w_pure (p_fieldAddr (B := B7) (j := 0) (j' := 1) rfl fo24_1 rfl) rfl rfl rfl ?_
      refine w_pure (p_load (i := 0) (v := .slice a4 (((Lru.run c l).1).keys).length c5) rfl rfl sh22 rfl) rfl rfl rfl ?_
      refine w_pure (p_move (v := .int .i64 (i : Int)) rfl) rfl rfl rfl ?_
      refine w_pure (p_indexAddr (L := ((Lru.run c l).1).keys) (T := tInt) (i := (i : Int)) rfl rfl (rd_own (i := 1) rfl) Try.underlying22 sz3 (by omega) (by omega)) rfl rfl rfl ?_
      refine w_pure (p_loadE1 (i := i) (T := tInt) (L := ((Lru.run c l).1).keys) (v := .int .i64 ((((Lru.run c l).1).keys)[i])) rfl (rd_own (i := 1) rfl) (by first | assumption | omega) sh3 rfl) rfl rfl rfl ?_
      refine w_call0 (v := .bool (Ref.hasInt c.keys ((((Lru.run c l).1).keys)[i]))) rfl (hasInt_ok c.keys ac_0 cc_0 ((((Lru.run c l).1).keys)[i])) hf19 (fun w hw => (rd_base (i := 3) rfl hc_0) w hw) rfl ?_
      refine w_pure (p_not (b := (Ref.hasInt c.keys ((((Lru.run c l).1).keys)[i]))) rfl) rfl rfl rfl ?_
      refine w_pure (p_move (v := .bool (!(Ref.hasInt c.keys ((((Lru.run c l).1).keys)[i])))) rfl) rfl rfl rfl ?_
      refine w_and (p := 59) 9 (!(Ref.hasInt l ((((Lru.run c l).1).keys)[i]))) ?_ ?_ ?_
      · intro hb11 hk
        simp only [Bool.not_eq_true'] at hb11
        refine w_unguard 50 rfl rfl ?_
        refine w_pure (p_move (v := .slice al l.length cl) rfl) rfl rfl rfl ?_
        refine w_unguard 50 rfl rfl ?_
        refine w_pure (p_fieldAddr (B := B7) (j := 0) (j' := 1) rfl fo24_1 rfl) rfl rfl rfl ?_
        refine w_unguard 50 rfl rfl ?_
        refine w_pure (p_load (i := 0) (v := .slice a4 (((Lru.run c l).1).keys).length c5) rfl rfl sh22 rfl) rfl rfl rfl ?_
        refine w_unguard 50 rfl rfl ?_
        refine w_pure (p_move (v := .int .i64 (i : Int)) rfl) rfl rfl rfl ?_
        refine w_unguard 50 rfl rfl ?_
        refine w_pure (p_indexAddr (L := ((Lru.run c l).1).keys) (T := tInt) (i := (i : Int)) rfl rfl (rd_own (i := 1) rfl) Try.underlying22 sz3 (by omega) (by omega)) rfl rfl rfl ?_
        refine w_unguard 50 rfl rfl ?_
        refine w_pure (p_loadE1 (i := i) (T := tInt) (L := ((Lru.run c l).1).keys) (v := .int .i64 ((((Lru.run c l).1).keys)[i])) rfl (rd_own (i := 1) rfl) (by first | assumption | omega) sh3 rfl) rfl rfl rfl ?_
        refine w_unguard 50 rfl rfl ?_
        refine w_call0 (v := .bool (Ref.hasInt l ((((Lru.run c l).1).keys)[i]))) rfl (hasInt_ok l al cl ((((Lru.run c l).1).keys)[i])) hf19 (fun w hw => (rd_base (i := 3) rfl hl) w hw) rfl ?_
        refine w_unguard 50 rfl rfl ?_
        refine w_pure (p_not (b := (Ref.hasInt l ((((Lru.run c l).1).keys)[i]))) rfl) rfl rfl rfl ?_
        refine w_pure (p_pick_true (u := .bool (!(Ref.hasInt l ((((Lru.run c l).1).keys)[i])))) rfl rfl) rfl rfl rfl ?_
        exact w_sub (Sub.cons rfl (Sub.skip rfl (Sub.skip rfl (Sub.skip rfl (Sub.skip rfl (Sub.skip rfl (Sub.skip rfl (Sub.skip rfl (Sub.skip rfl (Sub.skip rfl (Sub.skip rfl (Sub.refl _)))))))))))) hk
      · intro hb11 hk
        refine w_guard_no rfl 50 rfl rfl rfl rfl rfl ?_
        refine w_guard_no rfl 50 rfl rfl rfl rfl rfl ?_
        refine w_guard_no rfl 50 rfl rfl rfl rfl rfl ?_
        refine w_guard_no rfl 50 rfl rfl rfl rfl rfl ?_
        refine w_guard_no rfl 50 rfl rfl rfl rfl rfl ?_
        refine w_guard_no rfl 50 rfl rfl rfl rfl rfl ?_
        refine w_guard_no rfl 50 rfl rfl rfl rfl rfl ?_
        refine w_guard_no rfl 50 rfl rfl rfl rfl rfl ?_
        refine w_pure (p_pick_false (v := .bool false) rfl rfl) rfl rfl rfl ?_
        exact w_sub (Sub.cons rfl (Sub.skip rfl (Sub.skip rfl (Sub.skip rfl (Sub.skip rfl (Sub.skip rfl (Sub.skip rfl (Sub.skip rfl (Sub.skip rfl (Sub.skip rfl (Sub.skip rfl (Sub.refl _)))))))))))) hk
      refine w_nil ?_
      refine q_then ?_
      refine c_cond (b := ((!(Ref.hasInt c.keys ((((Lru.run c l).1).keys)[i]))) && (!(Ref.hasInt l ((((Lru.run c l).1).keys)[i]))))) rfl (fun hc12 => ?_) (fun hc12 => ?_)
      · simp only [Bool.and_eq_true, Bool.not_eq_true'] at hc12
        exfalso; exact Lru.from_no hrun (by omega) hc12.1 hc12.2
      · simp only [Bool.and_eq_false_iff, Bool.not_eq_false'] at hc12
        refine c_skip ?_
        refine q_block_normal (q_then ?_)
        refine c_region ?_
        refine o_pure (p_move (v := .int .i64 (i : Int)) rfl) rfl rfl rfl ?_
        refine o_pure (p_addb (p := (i : Int)) (q := 1) rfl rfl (by omega)) rfl rfl rfl ?_
        refine o_pure (p_assign (v := .int .i64 ((i : Int) + 1)) rfl) rfl rfl rfl ?_
        refine o_nil ?_
        refine q_round hK9 (i + 1) ?_ ?_ ?_ ?_
        · clear hK9
          omega
        · (try dsimp only); omega
        · exact Sub.cons rfl (Sub.cons rfl (Sub.cons rfl (Sub.cons rfl (Sub.nil _))))
        · exact fun _ hw => HeapIs.pick hw [0, 1, 2, 3] (by decide) rfl
    · simp only [decide_eq_false_iff_not, Int.not_lt] at hc10
      refine c_exit ?_
      refine q_then_exit (q_then_exit (q_block_exit (q_then ?_)))
      refine c_seq ?_
      refine c_seq ?_
      refine c_region ?_
      refine o_pure (p_move (v := .slice al l.length cl) rfl) rfl rfl rfl ?_
      refine o_pure (p_len_slice (len := l.length) rfl rfl Try.underlying22) rfl rfl rfl ?_
      refine o_pure (p_eq (p := (l.length : Int)) (q := 0) rfl rfl) rfl rfl rfl ?_
      refine o_nil ?_
      refine q_then ?_
      refine c_cond (b := ((l.length : Int) == 0)) rfl (fun hc13 => ?_) (fun hc13 => ?_)
      · simp only [beq_iff_eq] at hc13
        refine c_seq ?_
        refine c_region ?_
        refine o_pure (p_load_agg (i := 0) (vs := [.int .i64 (((Lru.run c l).1).room), .slice a4 (((Lru.run c l).1).keys).length c5]) rfl rfl sh24 rfl rfl) rfl rfl rfl ?_
        refine o_pure (p_load_agg (i := 2) (vs := [.int .i64 c.room, .slice ac_0 c.keys.length cc_0]) rfl rfl sh24 rfl rfl) rfl rfl rfl ?_
        refine o_call0 (v := .bool (decide (((Lru.run c l).1) = c))) rfl (sameCache_ok ((Lru.run c l).1) a4 c5 c ac_0 cc_0) hf18 (fun w hw => ⟨(rd_own (i := 1) rfl) w hw, (rd_base (i := 3) rfl hc_0) w hw⟩) rfl ?_
        refine o_pure (p_assign (v := .bool (decide (((Lru.run c l).1) = c))) rfl) rfl rfl rfl ?_
        refine o_nil ?_
        refine q_then ?_
        refine c_ret ?_
        refine q_then_ret ?_
        have hr0 : ((decide (((Lru.run c l).1) = c)) : Bool) = true := by
          first | rfl | (rw [Lru.run_bad (by assumption)]; rfl) | exact decide_eq_true (Lru.run_nil hrun (by omega)) | (obtain ⟨r1, r2, r3, r4, r5⟩ := Lru.recent (j := l.length - 1) hrun (by omega); simp [r1, r2, r3, r4, Ref.sameInts]; omega)
        refine q_end0 (v := .bool (decide (((Lru.run c l).1) = c))) (rt1 rfl (r_tmp rfl)) (i := 3) rfl ?_
        exact (by have hcc := congrArg (fun (y0 : Bool) => (.bool y0 : Value)) hr0; exact hcc)
      · simp only [beq_eq_false_iff_ne, ne_eq] at hc13
        refine c_skip ?_
        refine q_then ?_
        refine c_seq ?_
        refine c_region ?_
        refine o_pure (p_move (v := .slice al l.length cl) rfl) rfl rfl rfl ?_
        refine o_pure (p_move (v := .slice al l.length cl) rfl) rfl rfl rfl ?_
        refine o_pure (p_len_slice (len := l.length) rfl rfl Try.underlying22) rfl rfl rfl ?_
        refine o_pure (p_subb (p := (l.length : Int)) (q := 1) rfl rfl (by omega)) rfl rfl rfl ?_
        refine o_pure (p_indexAddr (L := l) (T := tInt) (i := ((l.length : Int) - 1)) rfl rfl (rd_base (i := 3) rfl hl) Try.underlying22 sz3 (by omega) (by omega)) rfl rfl rfl ?_
        refine o_pure (p_loadE1 (i := ((l.length : Int) - 1).toNat) (T := tInt) (L := l) (v := .int .i64 (l[((l.length : Int) - 1).toNat])) rfl (rd_base (i := 3) rfl hl) (by first | assumption | omega) sh3 rfl) rfl rfl rfl ?_
        refine o_pure (p_assign (v := .int .i64 (l[((l.length : Int) - 1).toNat])) rfl) rfl rfl rfl ?_
        refine o_nil ?_
        refine q_then ?_
        refine c_seq ?_
        refine c_region ?_
        refine o_pure (p_load_agg (i := 0) (vs := [.int .i64 (((Lru.run c l).1).room), .slice a4 (((Lru.run c l).1).keys).length c5]) rfl rfl sh24 rfl rfl) rfl rfl rfl ?_
        refine o_pure (p_move (v := .int .i64 (l[((l.length : Int) - 1).toNat])) rfl) rfl rfl rfl ?_
        refine o_callM rfl (laccess_ok ((Lru.run c l).1) a4 c5 (l[((l.length : Int) - 1).toNat])) hf20 (fun w hw => (rd_own (i := 1) rfl) w hw) rfl (fun _ _ _ _ ha hA => SlO.agree ha hA) ?_
        rintro ⟨a16, c17⟩ S14
        refine o_know (fun w hw => own_len (i := 0) (T := tInt) hw rfl) (fun hlr18 => ?_)
        refine o_pure (p_move (v := .tuple #[.agg #[.int .i64 (((Lru.access ((Lru.run c l).1) (l[((l.length : Int) - 1).toNat])).1).room), .slice a16 (((Lru.access ((Lru.run c l).1) (l[((l.length : Int) - 1).toNat])).1).keys).length c17], .bool ((Lru.access ((Lru.run c l).1) (l[((l.length : Int) - 1).toNat])).2.1), .int .i64 ((Lru.access ((Lru.run c l).1) (l[((l.length : Int) - 1).toNat])).2.2), .int .i64 (Lru.accessErr ((Lru.run c l).1) (l[((l.length : Int) - 1).toNat]))]) rfl) rfl rfl rfl ?_
        refine o_pure (p_extract (vs := [.agg #[.int .i64 (((Lru.access ((Lru.run c l).1) (l[((l.length : Int) - 1).toNat])).1).room), .slice a16 (((Lru.access ((Lru.run c l).1) (l[((l.length : Int) - 1).toNat])).1).keys).length c17], .bool ((Lru.access ((Lru.run c l).1) (l[((l.length : Int) - 1).toNat])).2.1), .int .i64 ((Lru.access ((Lru.run c l).1) (l[((l.length : Int) - 1).toNat])).2.2), .int .i64 (Lru.accessErr ((Lru.run c l).1) (l[((l.length : Int) - 1).toNat]))]) (v := .agg #[.int .i64 (((Lru.access ((Lru.run c l).1) (l[((l.length : Int) - 1).toNat])).1).room), .slice a16 (((Lru.access ((Lru.run c l).1) (l[((l.length : Int) - 1).toNat])).1).keys).length c17]) rfl rfl) rfl rfl rfl ?_
        refine o_pure (p_extract (vs := [.agg #[.int .i64 (((Lru.access ((Lru.run c l).1) (l[((l.length : Int) - 1).toNat])).1).room), .slice a16 (((Lru.access ((Lru.run c l).1) (l[((l.length : Int) - 1).toNat])).1).keys).length c17], .bool ((Lru.access ((Lru.run c l).1) (l[((l.length : Int) - 1).toNat])).2.1), .int .i64 ((Lru.access ((Lru.run c l).1) (l[((l.length : Int) - 1).toNat])).2.2), .int .i64 (Lru.accessErr ((Lru.run c l).1) (l[((l.length : Int) - 1).toNat]))]) (v := .bool ((Lru.access ((Lru.run c l).1) (l[((l.length : Int) - 1).toNat])).2.1)) rfl rfl) rfl rfl rfl ?_
        refine o_pure (p_extract (vs := [.agg #[.int .i64 (((Lru.access ((Lru.run c l).1) (l[((l.length : Int) - 1).toNat])).1).room), .slice a16 (((Lru.access ((Lru.run c l).1) (l[((l.length : Int) - 1).toNat])).1).keys).length c17], .bool ((Lru.access ((Lru.run c l).1) (l[((l.length : Int) - 1).toNat])).2.1), .int .i64 ((Lru.access ((Lru.run c l).1) (l[((l.length : Int) - 1).toNat])).2.2), .int .i64 (Lru.accessErr ((Lru.run c l).1) (l[((l.length : Int) - 1).toNat]))]) (v := .int .i64 ((Lru.access ((Lru.run c l).1) (l[((l.length : Int) - 1).toNat])).2.2)) rfl rfl) rfl rfl rfl ?_
        refine o_pure (p_extract (vs := [.agg #[.int .i64 (((Lru.access ((Lru.run c l).1) (l[((l.length : Int) - 1).toNat])).1).room), .slice a16 (((Lru.access ((Lru.run c l).1) (l[((l.length : Int) - 1).toNat])).1).keys).length c17], .bool ((Lru.access ((Lru.run c l).1) (l[((l.length : Int) - 1).toNat])).2.1), .int .i64 ((Lru.access ((Lru.run c l).1) (l[((l.length : Int) - 1).toNat])).2.2), .int .i64 (Lru.accessErr ((Lru.run c l).1) (l[((l.length : Int) - 1).toNat]))]) (v := .int .i64 (Lru.accessErr ((Lru.run c l).1) (l[((l.length : Int) - 1).toNat]))) rfl rfl) rfl rfl rfl ?_
        refine o_alloc ze24 rfl (fun B19 => ?_)
        refine o_storeN (i := 0) (vs := [.int .i64 (((Lru.access ((Lru.run c l).1) (l[((l.length : Int) - 1).toNat])).1).room), .slice a16 (((Lru.access ((Lru.run c l).1) (l[((l.length : Int) - 1).toNat])).1).keys).length c17]) (cs' := [.int .i64 (((Lru.access ((Lru.run c l).1) (l[((l.length : Int) - 1).toNat])).1).room), .slice a16 (((Lru.access ((Lru.run c l).1) (l[((l.length : Int) - 1).toNat])).1).keys).length c17]) rfl rfl rfl sz24 rfl rfl rfl rfl ?_
        refine o_pure (p_assign (v := .bool ((Lru.access ((Lru.run c l).1) (l[((l.length : Int) - 1).toNat])).2.1)) rfl) rfl rfl rfl ?_
        refine o_pure (p_assign (v := .int .i64 ((Lru.access ((Lru.run c l).1) (l[((l.length : Int) - 1).toNat])).2.2)) rfl) rfl rfl rfl ?_
        refine o_pure (p_assign (v := .int .i64 (Lru.accessErr ((Lru.run c l).1) (l[((l.length : Int) - 1).toNat]))) rfl) rfl rfl rfl ?_
        refine o_nil ?_
        refine q_then ?_
        refine c_seq ?_
        refine c_region ?_
        refine o_pure (p_load_agg (i := 2) (vs := [.int .i64 (((Lru.run c l).1).room), .slice a4 (((Lru.run c l).1).keys).length c5]) rfl rfl sh24 rfl rfl) rfl rfl rfl ?_
        refine o_callM rfl (lresize_ok ((Lru.run c l).1) a4 c5 (1 : Int)) hf21 (fun w hw => (rd_own (i := 3) rfl) w hw) rfl (fun _ _ _ _ ha hA => ⟨SlR.agree ha hA.1, SlR.agree ha hA.2⟩) ?_
        rintro ⟨a22, c23, a24, c25⟩ S20
        refine o_know (fun w hw => (hw.at (i := 0) rfl).here.1.2.1) (fun hlr26 => ?_)
        refine o_know (fun w hw => (hw.at (i := 0) rfl).here.2.2.1) (fun hlr27 => ?_)
        refine o_pure (p_move (v := .tuple #[.agg #[.int .i64 (((Lru.resize ((Lru.run c l).1) (1 : Int)).1).room), .slice a22 (((Lru.resize ((Lru.run c l).1) (1 : Int)).1).keys).length c23], .slice a24 ((Lru.resize ((Lru.run c l).1) (1 : Int)).2).length c25, .int .i64 (Lru.sizeErr ((Lru.run c l).1) (1 : Int))]) rfl) rfl rfl rfl ?_
        refine o_pure (p_extract (vs := [.agg #[.int .i64 (((Lru.resize ((Lru.run c l).1) (1 : Int)).1).room), .slice a22 (((Lru.resize ((Lru.run c l).1) (1 : Int)).1).keys).length c23], .slice a24 ((Lru.resize ((Lru.run c l).1) (1 : Int)).2).length c25, .int .i64 (Lru.sizeErr ((Lru.run c l).1) (1 : Int))]) (v := .agg #[.int .i64 (((Lru.resize ((Lru.run c l).1) (1 : Int)).1).room), .slice a22 (((Lru.resize ((Lru.run c l).1) (1 : Int)).1).keys).length c23]) rfl rfl) rfl rfl rfl ?_
        refine o_pure (p_extract (vs := [.agg #[.int .i64 (((Lru.resize ((Lru.run c l).1) (1 : Int)).1).room), .slice a22 (((Lru.resize ((Lru.run c l).1) (1 : Int)).1).keys).length c23], .slice a24 ((Lru.resize ((Lru.run c l).1) (1 : Int)).2).length c25, .int .i64 (Lru.sizeErr ((Lru.run c l).1) (1 : Int))]) (v := .slice a24 ((Lru.resize ((Lru.run c l).1) (1 : Int)).2).length c25) rfl rfl) rfl rfl rfl ?_
        refine o_pure (p_extract (vs := [.agg #[.int .i64 (((Lru.resize ((Lru.run c l).1) (1 : Int)).1).room), .slice a22 (((Lru.resize ((Lru.run c l).1) (1 : Int)).1).keys).length c23], .slice a24 ((Lru.resize ((Lru.run c l).1) (1 : Int)).2).length c25, .int .i64 (Lru.sizeErr ((Lru.run c l).1) (1 : Int))]) (v := .int .i64 (Lru.sizeErr ((Lru.run c l).1) (1 : Int))) rfl rfl) rfl rfl rfl ?_
        refine o_alloc ze24 rfl (fun B28 => ?_)
        refine o_storeN (i := 0) (vs := [.int .i64 (((Lru.resize ((Lru.run c l).1) (1 : Int)).1).room), .slice a22 (((Lru.resize ((Lru.run c l).1) (1 : Int)).1).keys).length c23]) (cs' := [.int .i64 (((Lru.resize ((Lru.run c l).1) (1 : Int)).1).room), .slice a22 (((Lru.resize ((Lru.run c l).1) (1 : Int)).1).keys).length c23]) rfl rfl rfl sz24 rfl rfl rfl rfl ?_
        refine o_pure (p_assign (v := .slice a24 ((Lru.resize ((Lru.run c l).1) (1 : Int)).2).length c25) rfl) rfl rfl rfl ?_
        refine o_pure (p_assign (v := .int .i64 (Lru.sizeErr ((Lru.run c l).1) (1 : Int))) rfl) rfl rfl rfl ?_
        refine o_nil ?_
        refine q_then ?_
        refine c_seq ?_
        refine c_region ?_
        refine o_pure (p_move (v := .int .i64 (Lru.accessErr ((Lru.run c l).1) (l[((l.length : Int) - 1).toNat]))) rfl) rfl rfl rfl ?_
        refine o_pure (p_eq (p := (Lru.accessErr ((Lru.run c l).1) (l[((l.length : Int) - 1).toNat]))) (q := 0) rfl rfl) rfl rfl rfl ?_
        refine o_pure (p_move (v := .bool ((Lru.accessErr ((Lru.run c l).1) (l[((l.length : Int) - 1).toNat])) == 0)) rfl) rfl rfl rfl ?_
        refine o_and (p := 90) 2 ((Lru.access ((Lru.run c l).1) (l[((l.length : Int) - 1).toNat])).2.1) ?_ ?_ ?_
        · intro hb29 hk
          simp only [beq_iff_eq] at hb29
          refine o_unguard 88 rfl rfl ?_
          refine o_pure (p_move (v := .bool ((Lru.access ((Lru.run c l).1) (l[((l.length : Int) - 1).toNat])).2.1)) rfl) rfl rfl rfl ?_
          refine o_pure (p_pick_true (u := .bool ((Lru.access ((Lru.run c l).1) (l[((l.length : Int) - 1).toNat])).2.1)) rfl rfl) rfl rfl rfl ?_
          exact o_sub (Sub.cons rfl (Sub.skip rfl (Sub.skip rfl (Sub.skip rfl (Sub.refl _))))) hk
        · intro hb29 hk
          refine o_guard_no rfl 88 rfl rfl rfl rfl rfl ?_
          refine o_pure (p_pick_false (v := .bool false) rfl rfl) rfl rfl rfl ?_
          exact o_sub (Sub.cons rfl (Sub.skip rfl (Sub.skip rfl (Sub.skip rfl (Sub.refl _))))) hk
        refine o_pure (p_move (v := .bool (((Lru.accessErr ((Lru.run c l).1) (l[((l.length : Int) - 1).toNat])) == 0) && ((Lru.access ((Lru.run c l).1) (l[((l.length : Int) - 1).toNat])).2.1))) rfl) rfl rfl rfl ?_
        refine o_and (p := 94) 3 (((Lru.access ((Lru.run c l).1) (l[((l.length : Int) - 1).toNat])).2.2) == (-1)) ?_ ?_ ?_
        · intro hb30 hk
          simp only [Bool.and_eq_true, beq_iff_eq] at hb30
          refine o_unguard 91 rfl rfl ?_
          refine o_pure (p_move (v := .int .i64 ((Lru.access ((Lru.run c l).1) (l[((l.length : Int) - 1).toNat])).2.2)) rfl) rfl rfl rfl ?_
          refine o_unguard 91 rfl rfl ?_
          refine o_pure (p_eq (p := ((Lru.access ((Lru.run c l).1) (l[((l.length : Int) - 1).toNat])).2.2)) (q := (-1)) rfl rfl) rfl rfl rfl ?_
          refine o_pure (p_pick_true (u := .bool (((Lru.access ((Lru.run c l).1) (l[((l.length : Int) - 1).toNat])).2.2) == (-1))) rfl rfl) rfl rfl rfl ?_
          exact o_sub (Sub.cons rfl (Sub.skip rfl (Sub.skip rfl (Sub.skip rfl (Sub.skip rfl (Sub.refl _)))))) hk
        · intro hb30 hk
          refine o_guard_no rfl 91 rfl rfl rfl rfl rfl ?_
          refine o_guard_no rfl 91 rfl rfl rfl rfl rfl ?_
          refine o_pure (p_pick_false (v := .bool false) rfl rfl) rfl rfl rfl ?_
          exact o_sub (Sub.cons rfl (Sub.skip rfl (Sub.skip rfl (Sub.skip rfl (Sub.skip rfl (Sub.refl _)))))) hk
        refine o_pure (p_move (v := .bool ((((Lru.accessErr ((Lru.run c l).1) (l[((l.length : Int) - 1).toNat])) == 0) && ((Lru.access ((Lru.run c l).1) (l[((l.length : Int) - 1).toNat])).2.1)) && (((Lru.access ((Lru.run c l).1) (l[((l.length : Int) - 1).toNat])).2.2) == (-1)))) rfl) rfl rfl rfl ?_
        refine o_and (p := 99) 4 (decide (((Lru.access ((Lru.run c l).1) (l[((l.length : Int) - 1).toNat])).1) = ((Lru.run c l).1))) ?_ ?_ ?_
        · intro hb31 hk
          simp only [Bool.and_eq_true, beq_iff_eq] at hb31
          refine o_unguard 95 rfl rfl ?_
          refine o_pure (p_load_agg (i := 2) (vs := [.int .i64 (((Lru.access ((Lru.run c l).1) (l[((l.length : Int) - 1).toNat])).1).room), .slice a16 (((Lru.access ((Lru.run c l).1) (l[((l.length : Int) - 1).toNat])).1).keys).length c17]) rfl rfl sh24 rfl rfl) rfl rfl rfl ?_
          refine o_unguard 95 rfl rfl ?_
          refine o_pure (p_load_agg (i := 4) (vs := [.int .i64 (((Lru.run c l).1).room), .slice a4 (((Lru.run c l).1).keys).length c5]) rfl rfl sh24 rfl rfl) rfl rfl rfl ?_
          refine o_unguard 95 rfl rfl ?_
          refine o_call0 (v := .bool (decide (((Lru.access ((Lru.run c l).1) (l[((l.length : Int) - 1).toNat])).1) = ((Lru.run c l).1)))) rfl (sameCache_ok ((Lru.access ((Lru.run c l).1) (l[((l.length : Int) - 1).toNat])).1) a16 c17 ((Lru.run c l).1) a4 c5) hf18 (fun w hw => ⟨(rd_own (i := 3) rfl) w hw, (rd_own (i := 5) rfl) w hw⟩) rfl ?_
          refine o_pure (p_pick_true (u := .bool (decide (((Lru.access ((Lru.run c l).1) (l[((l.length : Int) - 1).toNat])).1) = ((Lru.run c l).1)))) rfl rfl) rfl rfl rfl ?_
          exact o_sub (Sub.cons rfl (Sub.skip rfl (Sub.skip rfl (Sub.skip rfl (Sub.skip rfl (Sub.skip rfl (Sub.refl _))))))) hk
        · intro hb31 hk
          refine o_guard_no rfl 95 rfl rfl rfl rfl rfl ?_
          refine o_guard_no rfl 95 rfl rfl rfl rfl rfl ?_
          refine o_guard_no rfl 95 rfl rfl rfl rfl rfl ?_
          refine o_pure (p_pick_false (v := .bool false) rfl rfl) rfl rfl rfl ?_
          exact o_sub (Sub.cons rfl (Sub.skip rfl (Sub.skip rfl (Sub.skip rfl (Sub.skip rfl (Sub.skip rfl (Sub.refl _))))))) hk
        refine o_pure (p_move (v := .bool (((((Lru.accessErr ((Lru.run c l).1) (l[((l.length : Int) - 1).toNat])) == 0) && ((Lru.access ((Lru.run c l).1) (l[((l.length : Int) - 1).toNat])).2.1)) && (((Lru.access ((Lru.run c l).1) (l[((l.length : Int) - 1).toNat])).2.2) == (-1))) && (decide (((Lru.access ((Lru.run c l).1) (l[((l.length : Int) - 1).toNat])).1) = ((Lru.run c l).1))))) rfl) rfl rfl rfl ?_
        refine o_and (p := 103) 3 ((Lru.sizeErr ((Lru.run c l).1) (1 : Int)) == 0) ?_ ?_ ?_
        · intro hb32 hk
          simp only [Bool.and_eq_true, beq_iff_eq, decide_eq_true_eq] at hb32
          refine o_unguard 100 rfl rfl ?_
          refine o_pure (p_move (v := .int .i64 (Lru.sizeErr ((Lru.run c l).1) (1 : Int))) rfl) rfl rfl rfl ?_
          refine o_unguard 100 rfl rfl ?_
          refine o_pure (p_eq (p := (Lru.sizeErr ((Lru.run c l).1) (1 : Int))) (q := 0) rfl rfl) rfl rfl rfl ?_
          refine o_pure (p_pick_true (u := .bool ((Lru.sizeErr ((Lru.run c l).1) (1 : Int)) == 0)) rfl rfl) rfl rfl rfl ?_
          exact o_sub (Sub.cons rfl (Sub.skip rfl (Sub.skip rfl (Sub.skip rfl (Sub.skip rfl (Sub.refl _)))))) hk
        · intro hb32 hk
          refine o_guard_no rfl 100 rfl rfl rfl rfl rfl ?_
          refine o_guard_no rfl 100 rfl rfl rfl rfl rfl ?_
          refine o_pure (p_pick_false (v := .bool false) rfl rfl) rfl rfl rfl ?_
          exact o_sub (Sub.cons rfl (Sub.skip rfl (Sub.skip rfl (Sub.skip rfl (Sub.skip rfl (Sub.refl _)))))) hk
        refine o_pure (p_move (v := .bool ((((((Lru.accessErr ((Lru.run c l).1) (l[((l.length : Int) - 1).toNat])) == 0) && ((Lru.access ((Lru.run c l).1) (l[((l.length : Int) - 1).toNat])).2.1)) && (((Lru.access ((Lru.run c l).1) (l[((l.length : Int) - 1).toNat])).2.2) == (-1))) && (decide (((Lru.access ((Lru.run c l).1) (l[((l.length : Int) - 1).toNat])).1) = ((Lru.run c l).1)))) && ((Lru.sizeErr ((Lru.run c l).1) (1 : Int)) == 0))) rfl) rfl rfl rfl ?_
        refine o_and (p := 110) 6 (Ref.sameInts (((Lru.resize ((Lru.run c l).1) (1 : Int)).1).keys) ([l[((l.length : Int) - 1).toNat]])) ?_ ?_ ?_
        · intro hb33 hk
          simp only [Bool.and_eq_true, beq_iff_eq, decide_eq_true_eq] at hb33
          refine o_unguard 104 rfl rfl ?_
          refine o_pure (p_fieldAddr (B := B28) (j := 0) (j' := 1) rfl fo24_1 rfl) rfl rfl rfl ?_
          refine o_unguard 104 rfl rfl ?_
          refine o_pure (p_load (i := 0) (v := .slice a22 (((Lru.resize ((Lru.run c l).1) (1 : Int)).1).keys).length c23) rfl rfl sh22 rfl) rfl rfl rfl ?_
          refine o_unguard 104 rfl rfl ?_
          refine o_pure (p_move (v := .int .i64 (l[((l.length : Int) - 1).toNat])) rfl) rfl rfl rfl ?_
          refine o_unguard 104 rfl rfl ?_
          refine o_buildSlice (m := 1) (T := tInt) (L := [l[((l.length : Int) - 1).toNat]]) (vs := [.int .i64 (l[((l.length : Int) - 1).toNat])]) rfl rfl rfl rfl Try.underlying22 sz3 (by decide) ze3 rfl (by decide) rfl (fun S34 a35 => ?_)
          refine o_unguard 104 rfl rfl ?_
          refine o_call0 (v := .bool (Ref.sameInts (((Lru.resize ((Lru.run c l).1) (1 : Int)).1).keys) ([l[((l.length : Int) - 1).toNat]]))) rfl (sameInts_ok (((Lru.resize ((Lru.run c l).1) (1 : Int)).1).keys) a22 c23 ([l[((l.length : Int) - 1).toNat]]) a35 ([l[((l.length : Int) - 1).toNat]].length)) hf17 (fun w hw => ⟨(rd_ent (i := 2) rfl (fun w h => h.1)) w hw, (rd_own (i := 0) rfl) w hw⟩) rfl ?_
          refine o_pure (p_pick_true (u := .bool (Ref.sameInts (((Lru.resize ((Lru.run c l).1) (1 : Int)).1).keys) ([l[((l.length : Int) - 1).toNat]]))) rfl rfl) rfl rfl rfl ?_
          exact o_sub (Sub.cons rfl (Sub.skip rfl (Sub.skip rfl (Sub.skip rfl (Sub.skip rfl (Sub.skip rfl (Sub.skip rfl (Sub.skip rfl (Sub.refl _))))))))) (o_drop (List.Sublist.cons _ (List.Sublist.cons_cons _ (List.Sublist.cons_cons _ (List.Sublist.cons_cons _ (List.Sublist.cons_cons _ (List.Sublist.cons_cons _ (List.Sublist.cons_cons _ (List.Sublist.cons_cons _ (List.Sublist.cons_cons _ (List.Sublist.slnil)))))))))) hk)
        · intro hb33 hk
          refine o_guard_no rfl 104 rfl rfl rfl rfl rfl ?_
          refine o_guard_no rfl 104 rfl rfl rfl rfl rfl ?_
          refine o_guard_no rfl 104 rfl rfl rfl rfl rfl ?_
          refine o_guard_no rfl 104 rfl rfl rfl rfl rfl ?_
          refine o_guard_no rfl 104 rfl rfl rfl rfl rfl ?_
          refine o_pure (p_pick_false (v := .bool false) rfl rfl) rfl rfl rfl ?_
          exact o_sub (Sub.cons rfl (Sub.skip rfl (Sub.skip rfl (Sub.skip rfl (Sub.skip rfl (Sub.skip rfl (Sub.skip rfl (Sub.skip rfl (Sub.refl _))))))))) hk
        refine o_pure (p_move (v := .bool (((((((Lru.accessErr ((Lru.run c l).1) (l[((l.length : Int) - 1).toNat])) == 0) && ((Lru.access ((Lru.run c l).1) (l[((l.length : Int) - 1).toNat])).2.1)) && (((Lru.access ((Lru.run c l).1) (l[((l.length : Int) - 1).toNat])).2.2) == (-1))) && (decide (((Lru.access ((Lru.run c l).1) (l[((l.length : Int) - 1).toNat])).1) = ((Lru.run c l).1)))) && ((Lru.sizeErr ((Lru.run c l).1) (1 : Int)) == 0)) && (Ref.sameInts (((Lru.resize ((Lru.run c l).1) (1 : Int)).1).keys) ([l[((l.length : Int) - 1).toNat]])))) rfl) rfl rfl rfl ?_
        refine o_and (p := 119) 8 ((((Lru.resize ((Lru.run c l).1) (1 : Int)).2).length : Int) == (((((Lru.run c l).1).keys).length : Int) - 1)) ?_ ?_ ?_
        · intro hb37 hk
          simp only [Bool.and_eq_true, beq_iff_eq, decide_eq_true_eq] at hb37
          refine o_unguard 111 rfl rfl ?_
          refine o_pure (p_move (v := .slice a24 ((Lru.resize ((Lru.run c l).1) (1 : Int)).2).length c25) rfl) rfl rfl rfl ?_
          refine o_unguard 111 rfl rfl ?_
          refine o_pure (p_len_slice (len := ((Lru.resize ((Lru.run c l).1) (1 : Int)).2).length) rfl rfl Try.underlying22) rfl rfl rfl ?_
          refine o_unguard 111 rfl rfl ?_
          refine o_pure (p_fieldAddr (B := B7) (j := 0) (j' := 1) rfl fo24_1 rfl) rfl rfl rfl ?_
          refine o_unguard 111 rfl rfl ?_
          refine o_pure (p_load (i := 4) (v := .slice a4 (((Lru.run c l).1).keys).length c5) rfl rfl sh22 rfl) rfl rfl rfl ?_
          refine o_unguard 111 rfl rfl ?_
          refine o_pure (p_len_slice (len := (((Lru.run c l).1).keys).length) rfl rfl Try.underlying22) rfl rfl rfl ?_
          refine o_unguard 111 rfl rfl ?_
          refine o_pure (p_subb (p := ((((Lru.run c l).1).keys).length : Int)) (q := 1) rfl rfl (by omega)) rfl rfl rfl ?_
          refine o_unguard 111 rfl rfl ?_
          refine o_pure (p_eq (p := (((Lru.resize ((Lru.run c l).1) (1 : Int)).2).length : Int)) (q := (((((Lru.run c l).1).keys).length : Int) - 1)) rfl rfl) rfl rfl rfl ?_
          refine o_pure (p_pick_true (u := .bool ((((Lru.resize ((Lru.run c l).1) (1 : Int)).2).length : Int) == (((((Lru.run c l).1).keys).length : Int) - 1))) rfl rfl) rfl rfl rfl ?_
          exact o_sub (Sub.cons rfl (Sub.skip rfl (Sub.skip rfl (Sub.skip rfl (Sub.skip rfl (Sub.skip rfl (Sub.skip rfl (Sub.skip rfl (Sub.skip rfl (Sub.skip rfl (Sub.refl _))))))))))) hk
        · intro hb37 hk
          refine o_guard_no rfl 111 rfl rfl rfl rfl rfl ?_
          refine o_guard_no rfl 111 rfl rfl rfl rfl rfl ?_
          refine o_guard_no rfl 111 rfl rfl rfl rfl rfl ?_
          refine o_guard_no rfl 111 rfl rfl rfl rfl rfl ?_
          refine o_guard_no rfl 111 rfl rfl rfl rfl rfl ?_
          refine o_guard_no rfl 111 rfl rfl rfl rfl rfl ?_
          refine o_guard_no rfl 111 rfl rfl rfl rfl rfl ?_
          refine o_pure (p_pick_false (v := .bool false) rfl rfl) rfl rfl rfl ?_
          exact o_sub (Sub.cons rfl (Sub.skip rfl (Sub.skip rfl (Sub.skip rfl (Sub.skip rfl (Sub.skip rfl (Sub.skip rfl (Sub.skip rfl (Sub.skip rfl (Sub.skip rfl (Sub.refl _))))))))))) hk
        refine o_pure (p_assign (v := .bool ((((((((Lru.accessErr ((Lru.run c l).1) (l[((l.length : Int) - 1).toNat])) == 0) && ((Lru.access ((Lru.run c l).1) (l[((l.length : Int) - 1).toNat])).2.1)) && (((Lru.access ((Lru.run c l).1) (l[((l.length : Int) - 1).toNat])).2.2) == (-1))) && (decide (((Lru.access ((Lru.run c l).1) (l[((l.length : Int) - 1).toNat])).1) = ((Lru.run c l).1)))) && ((Lru.sizeErr ((Lru.run c l).1) (1 : Int)) == 0)) && (Ref.sameInts (((Lru.resize ((Lru.run c l).1) (1 : Int)).1).keys) ([l[((l.length : Int) - 1).toNat]]))) && ((((Lru.resize ((Lru.run c l).1) (1 : Int)).2).length : Int) == (((((Lru.run c l).1).keys).length : Int) - 1)))) rfl) rfl rfl rfl ?_
        refine o_nil ?_
        refine q_then ?_
        refine c_ret ?_
        have hr0 : (((((((((Lru.accessErr ((Lru.run c l).1) (l[((l.length : Int) - 1).toNat])) == 0) && ((Lru.access ((Lru.run c l).1) (l[((l.length : Int) - 1).toNat])).2.1)) && (((Lru.access ((Lru.run c l).1) (l[((l.length : Int) - 1).toNat])).2.2) == (-1))) && (decide (((Lru.access ((Lru.run c l).1) (l[((l.length : Int) - 1).toNat])).1) = ((Lru.run c l).1)))) && ((Lru.sizeErr ((Lru.run c l).1) (1 : Int)) == 0)) && (Ref.sameInts (((Lru.resize ((Lru.run c l).1) (1 : Int)).1).keys) ([l[((l.length : Int) - 1).toNat]]))) && ((((Lru.resize ((Lru.run c l).1) (1 : Int)).2).length : Int) == (((((Lru.run c l).1).keys).length : Int) - 1))) : Bool) = true := by
          first | rfl | (rw [Lru.run_bad (by assumption)]; rfl) | exact decide_eq_true (Lru.run_nil hrun (by omega)) | (obtain ⟨r1, r2, r3, r4, r5⟩ := Lru.recent (j := l.length - 1) hrun (by omega); simp [r1, r2, r3, r4, Ref.sameInts]; omega)
        refine q_end0 (v := .bool ((((((((Lru.accessErr ((Lru.run c l).1) (l[((l.length : Int) - 1).toNat])) == 0) && ((Lru.access ((Lru.run c l).1) (l[((l.length : Int) - 1).toNat])).2.1)) && (((Lru.access ((Lru.run c l).1) (l[((l.length : Int) - 1).toNat])).2.2) == (-1))) && (decide (((Lru.access ((Lru.run c l).1) (l[((l.length : Int) - 1).toNat])).1) = ((Lru.run c l).1)))) && ((Lru.sizeErr ((Lru.run c l).1) (1 : Int)) == 0)) && (Ref.sameInts (((Lru.resize ((Lru.run c l).1) (1 : Int)).1).keys) ([l[((l.length : Int) - 1).toNat]]))) && ((((Lru.resize ((Lru.run c l).1) (1 : Int)).2).length : Int) == (((((Lru.run c l).1).keys).length : Int) - 1)))) (rt1 rfl (r_tmp rfl)) (i := 7) rfl ?_
        exact (by have hcc := congrArg (fun (y0 : Bool) => (.bool y0 : Value)) hr0; exact hcc)
end Go.Proofs.Ythbfdhphnofacad
