/- The walks, printed by a program from the translation and a specification. -/
import Derived.Test.YthbfdhphnofacabCkF
import Derived.Test.YthbfdhphnofacabCkLaw
import Derived.Test.YthbfdhphnofacabCkW6
namespace Go.Proofs.Ythbfdhphnofacab
open Go.Sx Go.RowKit
set_option maxHeartbeats 8000000 in
set_option maxRecDepth 100000 in
theorem clockSpec_ok (c : DClock) (ac_0 : Option Addr) (cc_0 : Nat) (key : Int) (l : List Int) (al : Option Addr) (cl : Nat) : Fn0 Try.prog 9 [.agg #[.int .i64 c.room, .int .i64 c.hand, .slice ac_0 c.frames.length cc_0], .int .i64 key, .slice al l.length cl] (fun w => Rd tFrame w ac_0 cc_0 c.frames ∧ Rd tInt w al cl l) (.bool true) := by
  refine fn0 (nt := 147) (F0 := [(0, .agg #[.int .i64 c.room, .int .i64 c.hand, .slice ac_0 c.frames.length cc_0]), (1, .int .i64 key), (2, .slice al l.length cl)]) Try.func9 rfl Try.ntmps9 rfl rfl (fun w0 hpre => ?_)
  obtain ⟨hc_0, hl⟩ := hpre
  have hlhc_0 := hc_0.2.1
  have hlhl := hl.2.1
  refine c_seq ?_
  refine c_region ?_
  refine o_box (v := .agg #[.int .i64 c.room, .int .i64 c.hand, .slice ac_0 c.frames.length cc_0]) rfl rfl (fun B1 => ?_)
  refine o_pure (p_assign (v := .bool false) rfl) rfl rfl rfl ?_
  refine o_nil ?_
  refine q_then ?_
  refine c_seq ?_
  refine c_region ?_
  refine o_pure (p_load_agg (i := 0) (vs := [.int .i64 c.room, .int .i64 c.hand, .slice ac_0 c.frames.length cc_0]) rfl rfl sh59 rfl rfl) rfl rfl rfl ?_
  refine o_pure (p_move (v := .int .i64 key) rfl) rfl rfl rfl ?_
  refine o_callM rfl (access_ok c ac_0 cc_0 key) hf37 (fun w hw => (rd_base (i := 1) rfl hc_0) w hw) rfl (fun _ _ _ _ ha hA => SlO.agree ha hA) ?_
  rintro ⟨a4, c5⟩ S2
  refine o_pure (p_move (v := .tuple #[.agg #[.int .i64 (((Clock.access c key).1).room), .int .i64 (((Clock.access c key).1).hand), .slice a4 (((Clock.access c key).1).frames).length c5], .bool ((Clock.access c key).2.1), .int .i64 ((Clock.access c key).2.2), .int .i64 (Clock.accessErr c key)]) rfl) rfl rfl rfl ?_
  refine o_pure (p_extract (vs := [.agg #[.int .i64 (((Clock.access c key).1).room), .int .i64 (((Clock.access c key).1).hand), .slice a4 (((Clock.access c key).1).frames).length c5], .bool ((Clock.access c key).2.1), .int .i64 ((Clock.access c key).2.2), .int .i64 (Clock.accessErr c key)]) (v := .agg #[.int .i64 (((Clock.access c key).1).room), .int .i64 (((Clock.access c key).1).hand), .slice a4 (((Clock.access c key).1).frames).length c5]) rfl rfl) rfl rfl rfl ?_
  refine o_pure (p_extract (vs := [.agg #[.int .i64 (((Clock.access c key).1).room), .int .i64 (((Clock.access c key).1).hand), .slice a4 (((Clock.access c key).1).frames).length c5], .bool ((Clock.access c key).2.1), .int .i64 ((Clock.access c key).2.2), .int .i64 (Clock.accessErr c key)]) (v := .bool ((Clock.access c key).2.1)) rfl rfl) rfl rfl rfl ?_
  refine o_pure (p_extract (vs := [.agg #[.int .i64 (((Clock.access c key).1).room), .int .i64 (((Clock.access c key).1).hand), .slice a4 (((Clock.access c key).1).frames).length c5], .bool ((Clock.access c key).2.1), .int .i64 ((Clock.access c key).2.2), .int .i64 (Clock.accessErr c key)]) (v := .int .i64 ((Clock.access c key).2.2)) rfl rfl) rfl rfl rfl ?_
  refine o_pure (p_extract (vs := [.agg #[.int .i64 (((Clock.access c key).1).room), .int .i64 (((Clock.access c key).1).hand), .slice a4 (((Clock.access c key).1).frames).length c5], .bool ((Clock.access c key).2.1), .int .i64 ((Clock.access c key).2.2), .int .i64 (Clock.accessErr c key)]) (v := .int .i64 (Clock.accessErr c key)) rfl rfl) rfl rfl rfl ?_
  refine o_alloc ze59 rfl (fun B6 => ?_)
  refine o_storeN (i := 0) (vs := [.int .i64 (((Clock.access c key).1).room), .int .i64 (((Clock.access c key).1).hand), .slice a4 (((Clock.access c key).1).frames).length c5]) (cs' := [.int .i64 (((Clock.access c key).1).room), .int .i64 (((Clock.access c key).1).hand), .slice a4 (((Clock.access c key).1).frames).length c5]) rfl rfl rfl sz59 rfl rfl rfl rfl ?_
  refine o_pure (p_assign (v := .bool ((Clock.access c key).2.1)) rfl) rfl rfl rfl ?_
  refine o_pure (p_assign (v := .int .i64 ((Clock.access c key).2.2)) rfl) rfl rfl rfl ?_
  refine o_pure (p_assign (v := .int .i64 (Clock.accessErr c key)) rfl) rfl rfl rfl ?_
  refine o_nil ?_
  refine q_then ?_
  refine c_seq ?_
  refine c_region ?_
  refine o_pure (p_load_agg (i := 2) (vs := [.int .i64 c.room, .int .i64 c.hand, .slice ac_0 c.frames.length cc_0]) rfl rfl sh59 rfl rfl) rfl rfl rfl ?_
  refine o_pure (p_move (v := .slice al l.length cl) rfl) rfl rfl rfl ?_
  refine o_callM rfl (run_ok c ac_0 cc_0 l al cl) hf38 (fun w hw => ⟨(rd_base (i := 3) rfl hc_0) w hw, (rd_base (i := 3) rfl hl) w hw⟩) rfl (fun _ _ _ _ ha hA => SlO.agree ha hA) ?_
  rintro ⟨a9, c10⟩ S7
  refine o_pure (p_move (v := .tuple #[.agg #[.int .i64 (((Clock.run c l).1).room), .int .i64 (((Clock.run c l).1).hand), .slice a9 (((Clock.run c l).1).frames).length c10], .int .i64 ((Clock.run c l).2), .int .i64 (Clock.runErr c l)]) rfl) rfl rfl rfl ?_
  refine o_pure (p_extract (vs := [.agg #[.int .i64 (((Clock.run c l).1).room), .int .i64 (((Clock.run c l).1).hand), .slice a9 (((Clock.run c l).1).frames).length c10], .int .i64 ((Clock.run c l).2), .int .i64 (Clock.runErr c l)]) (v := .agg #[.int .i64 (((Clock.run c l).1).room), .int .i64 (((Clock.run c l).1).hand), .slice a9 (((Clock.run c l).1).frames).length c10]) rfl rfl) rfl rfl rfl ?_
  refine o_pure (p_extract (vs := [.agg #[.int .i64 (((Clock.run c l).1).room), .int .i64 (((Clock.run c l).1).hand), .slice a9 (((Clock.run c l).1).frames).length c10], .int .i64 ((Clock.run c l).2), .int .i64 (Clock.runErr c l)]) (v := .int .i64 ((Clock.run c l).2)) rfl rfl) rfl rfl rfl ?_
  refine o_pure (p_extract (vs := [.agg #[.int .i64 (((Clock.run c l).1).room), .int .i64 (((Clock.run c l).1).hand), .slice a9 (((Clock.run c l).1).frames).length c10], .int .i64 ((Clock.run c l).2), .int .i64 (Clock.runErr c l)]) (v := .int .i64 (Clock.runErr c l)) rfl rfl) rfl rfl rfl ?_
  refine o_alloc ze59 rfl (fun B11 => ?_)
  refine o_storeN (i := 0) (vs := [.int .i64 (((Clock.run c l).1).room), .int .i64 (((Clock.run c l).1).hand), .slice a9 (((Clock.run c l).1).frames).length c10]) (cs' := [.int .i64 (((Clock.run c l).1).room), .int .i64 (((Clock.run c l).1).hand), .slice a9 (((Clock.run c l).1).frames).length c10]) rfl rfl rfl sz59 rfl rfl rfl rfl ?_
  refine o_pure (p_assign (v := .int .i64 ((Clock.run c l).2)) rfl) rfl rfl rfl ?_
  refine o_pure (p_assign (v := .int .i64 (Clock.runErr c l)) rfl) rfl rfl rfl ?_
  refine o_nil ?_
  refine q_then ?_
  refine c_seq ?_
  refine c_region ?_
  refine o_pure (p_load_agg (i := 4) (vs := [.int .i64 c.room, .int .i64 c.hand, .slice ac_0 c.frames.length cc_0]) rfl rfl sh59 rfl rfl) rfl rfl rfl ?_
  refine o_callM rfl (clear__ok c ac_0 cc_0) hf39 (fun w hw => (rd_base (i := 5) rfl hc_0) w hw) rfl (fun _ _ _ _ ha hA => SlO.agree ha hA) ?_
  rintro ⟨a14, c15⟩ S12
  refine o_pure (p_move (v := .tuple #[.agg #[.int .i64 ((Clock.clear c).room), .int .i64 ((Clock.clear c).hand), .slice a14 ((Clock.clear c).frames).length c15], .int .i64 (Clock.check c)]) rfl) rfl rfl rfl ?_
  refine o_pure (p_extract (vs := [.agg #[.int .i64 ((Clock.clear c).room), .int .i64 ((Clock.clear c).hand), .slice a14 ((Clock.clear c).frames).length c15], .int .i64 (Clock.check c)]) (v := .agg #[.int .i64 ((Clock.clear c).room), .int .i64 ((Clock.clear c).hand), .slice a14 ((Clock.clear c).frames).length c15]) rfl rfl) rfl rfl rfl ?_
  refine o_pure (p_extract (vs := [.agg #[.int .i64 ((Clock.clear c).room), .int .i64 ((Clock.clear c).hand), .slice a14 ((Clock.clear c).frames).length c15], .int .i64 (Clock.check c)]) (v := .int .i64 (Clock.check c)) rfl rfl) rfl rfl rfl ?_
  refine o_alloc ze59 rfl (fun B16 => ?_)
  refine o_storeN (i := 0) (vs := [.int .i64 ((Clock.clear c).room), .int .i64 ((Clock.clear c).hand), .slice a14 ((Clock.clear c).frames).length c15]) (cs' := [.int .i64 ((Clock.clear c).room), .int .i64 ((Clock.clear c).hand), .slice a14 ((Clock.clear c).frames).length c15]) rfl rfl rfl sz59 rfl rfl rfl rfl ?_
  refine o_pure (p_assign (v := .int .i64 (Clock.check c)) rfl) rfl rfl rfl ?_
  refine o_nil ?_
  refine q_then ?_
  refine c_seq ?_
  refine c_region ?_
  refine o_pure (p_load_agg (i := 6) (vs := [.int .i64 c.room, .int .i64 c.hand, .slice ac_0 c.frames.length cc_0]) rfl rfl sh59 rfl rfl) rfl rfl rfl ?_
  refine o_call0 (v := .int .i64 (Clock.check c)) rfl (clockCheck_ok c ac_0 cc_0) hf40 (fun w hw => (rd_base (i := 7) rfl hc_0) w hw) rfl ?_
  refine o_pure (p_assign (v := .int .i64 (Clock.check c)) rfl) rfl rfl rfl ?_
  refine o_nil ?_
  refine q_then ?_
  refine c_seq ?_
  refine c_region ?_
  refine o_pure (p_move (v := .int .i64 (Clock.check c)) rfl) rfl rfl rfl ?_
  refine o_pure (p_move (v := .int .i64 (Clock.check c)) rfl) rfl rfl rfl ?_
  refine o_pure (p_assign (v := .int .i64 (Clock.check c)) rfl) rfl rfl rfl ?_
  refine o_pure (p_assign (v := .int .i64 (Clock.check c)) rfl) rfl rfl rfl ?_
  refine o_nil ?_
  refine q_then ?_
  refine c_seq ?_
  refine c_region ?_
  refine o_alloc ze59 rfl (fun B17 => ?_)
  refine o_alloc ze59 rfl (fun B18 => ?_)
  refine o_alloc ze59 rfl (fun B19 => ?_)
  refine o_nil ?_
  refine q_then ?_
  refine c_seq ?_
  refine c_region ?_
  refine o_pure (p_assign (v := .bool false) rfl) rfl rfl rfl ?_
  refine o_pure (p_assign (v := .int .i64 0) rfl) rfl rfl rfl ?_
  refine o_pure (p_assign (v := .int .i64 0) rfl) rfl rfl rfl ?_
  refine o_nil ?_
  refine q_then ?_
  refine c_seq ?_
  refine c_seq ?_
  refine c_region ?_
  refine o_pure (p_move (v := .int .i64 (Clock.check c)) rfl) rfl rfl rfl ?_
  refine o_pure (p_eq (p := (Clock.check c)) (q := 0) rfl rfl) rfl rfl rfl ?_
  refine o_nil ?_
  refine q_then ?_
  refine c_cond (b := ((Clock.check c) == 0)) rfl (fun hc20 => ?_) (fun hc20 => ?_)
  · simp only [beq_iff_eq] at hc20
    have hok := Clock.ok_of hc20
    have hroom := hok.room
    have hlen := hok.len
    refine c_seq ?_
    refine c_seq ?_
    refine c_region ?_
    refine o_pure (p_move (v := .int .i64 key) rfl) rfl rfl rfl ?_
    refine o_pure (p_lt (p := key) (q := 0) rfl rfl) rfl rfl rfl ?_
    refine o_pure (p_move (v := .bool (decide (key < 0))) rfl) rfl rfl rfl ?_
    refine o_or (p := 57) 3 (decide (1048576 < key)) ?_ ?_ ?_
    · intro hb21 hk
      simp only [decide_eq_false_iff_not, Int.not_lt] at hb21
      refine o_unguard 54 rfl rfl ?_
      refine o_pure (p_move (v := .int .i64 key) rfl) rfl rfl rfl ?_
      refine o_unguard 54 rfl rfl ?_
      refine o_pure (p_gt (p := key) (q := 1048576) rfl rfl) rfl rfl rfl ?_
      refine o_pure (p_pick_false (v := .bool (decide (1048576 < key))) rfl rfl) rfl rfl rfl ?_
      exact o_sub (Sub.cons rfl (Sub.skip rfl (Sub.skip rfl (Sub.skip rfl (Sub.skip rfl (Sub.refl _)))))) hk
    · intro hb21 hk
      refine o_guard_no rfl 54 rfl rfl rfl rfl rfl ?_
      refine o_guard_no rfl 54 rfl rfl rfl rfl rfl ?_
      refine o_pure (p_pick_true (u := .bool true) rfl rfl) rfl rfl rfl ?_
      exact o_sub (Sub.cons rfl (Sub.skip rfl (Sub.skip rfl (Sub.skip rfl (Sub.skip rfl (Sub.refl _)))))) hk
    refine o_nil ?_
    refine q_then ?_
    refine c_cond (b := (decide (key < 0) || decide (1048576 < key))) rfl (fun hc22 => ?_) (fun hc22 => ?_)
    · simp only [Bool.or_eq_true, decide_eq_true_eq] at hc22
      refine c_region ?_
      refine o_pure (p_assign (v := .int .i64 3) rfl) rfl rfl rfl ?_
      refine o_nil ?_
      refine q_then ?_
      refine c_seq ?_
      refine c_seq ?_
      refine c_region ?_
      refine o_pure (p_move (v := .slice al l.length cl) rfl) rfl rfl rfl ?_
      refine o_call0 (v := .int .i64 (Lru.trace l)) rfl (traceCheck_ok l al cl) hf18 (fun w hw => (rd_base (i := 10) rfl hl) w hw) rfl ?_
      refine o_pure (p_assign (v := .int .i64 (Lru.trace l)) rfl) rfl rfl rfl ?_
      refine o_nil ?_
      refine q_then ?_
      refine c_seq ?_
      refine c_region ?_
      refine o_pure (p_move (v := .int .i64 (Lru.trace l)) rfl) rfl rfl rfl ?_
      refine o_pure (p_eq (p := (Lru.trace l)) (q := 0) rfl rfl) rfl rfl rfl ?_
      refine o_nil ?_
      refine q_then ?_
      refine c_cond (b := ((Lru.trace l) == 0)) rfl (fun hc23 => ?_) (fun hc23 => ?_)
      · simp only [beq_iff_eq] at hc23
        refine c_region ?_
        refine o_pure (p_load_agg (i := 9) (vs := [.int .i64 c.room, .int .i64 c.hand, .slice ac_0 c.frames.length cc_0]) rfl rfl sh59 rfl rfl) rfl rfl rfl ?_
        refine o_pure (p_move (v := .slice al l.length cl) rfl) rfl rfl rfl ?_
        refine o_callM rfl (clockRun_ok c ac_0 cc_0 l al cl (by first | assumption | exact hI.ok | omega)) hf42 (fun w hw => ⟨(rd_base (i := 10) rfl hc_0) w hw, (rd_base (i := 10) rfl hl) w hw⟩) rfl (fun _ _ _ _ ha hA => hA.imp (fun h => SlR.agree ha h) id) ?_
        rintro ⟨a26, c27⟩ S24
        refine o_pure (p_move (v := .tuple #[.agg #[.int .i64 (((Clock.runGo c 0 l).1).room), .int .i64 (((Clock.runGo c 0 l).1).hand), .slice a26 (((Clock.runGo c 0 l).1).frames).length c27], .int .i64 ((Clock.runGo c 0 l).2)]) rfl) rfl rfl rfl ?_
        refine o_pure (p_extract (vs := [.agg #[.int .i64 (((Clock.runGo c 0 l).1).room), .int .i64 (((Clock.runGo c 0 l).1).hand), .slice a26 (((Clock.runGo c 0 l).1).frames).length c27], .int .i64 ((Clock.runGo c 0 l).2)]) (v := .agg #[.int .i64 (((Clock.runGo c 0 l).1).room), .int .i64 (((Clock.runGo c 0 l).1).hand), .slice a26 (((Clock.runGo c 0 l).1).frames).length c27]) rfl rfl) rfl rfl rfl ?_
        refine o_pure (p_extract (vs := [.agg #[.int .i64 (((Clock.runGo c 0 l).1).room), .int .i64 (((Clock.runGo c 0 l).1).hand), .slice a26 (((Clock.runGo c 0 l).1).frames).length c27], .int .i64 ((Clock.runGo c 0 l).2)]) (v := .int .i64 ((Clock.runGo c 0 l).2)) rfl rfl) rfl rfl rfl ?_
        refine o_storeN (i := 2) (vs := [.int .i64 (((Clock.runGo c 0 l).1).room), .int .i64 (((Clock.runGo c 0 l).1).hand), .slice a26 (((Clock.runGo c 0 l).1).frames).length c27]) (cs' := [.int .i64 (((Clock.runGo c 0 l).1).room), .int .i64 (((Clock.runGo c 0 l).1).hand), .slice a26 (((Clock.runGo c 0 l).1).frames).length c27]) rfl rfl rfl sz59 rfl rfl rfl rfl ?_
        refine o_pure (p_assign (v := .int .i64 ((Clock.runGo c 0 l).2)) rfl) rfl rfl rfl ?_
        refine o_nil ?_
        refine q_then ?_
        refine c_seq ?_
        refine c_held hmix [loose tFrame (a26 = ac_0 ∧ c27 = cc_0 ∧ (((Clock.runGo c 0 l).1).frames) = c.frames) S24 a26 c27 (((Clock.runGo c 0 l).1).frames), box B18 [.int .i64 (((Clock.runGo c 0 l).1).room), .int .i64 (((Clock.runGo c 0 l).1).hand), .slice a26 (((Clock.runGo c 0 l).1).frames).length c27] 59, box B17 [.int .i64 0, .int .i64 0, .slice none 0 0] 59, box B16 [.int .i64 ((Clock.clear c).room), .int .i64 ((Clock.clear c).hand), .slice a14 ((Clock.clear c).frames).length c15] 59, own tFrame S12 a14 c15 ((Clock.clear c).frames), box B11 [.int .i64 (((Clock.run c l).1).room), .int .i64 (((Clock.run c l).1).hand), .slice a9 (((Clock.run c l).1).frames).length c10] 59, own tFrame S7 a9 c10 (((Clock.run c l).1).frames), box B6 [.int .i64 (((Clock.access c key).1).room), .int .i64 (((Clock.access c key).1).hand), .slice a4 (((Clock.access c key).1).frames).length c5] 59, own tFrame S2 a4 c5 (((Clock.access c key).1).frames), box B1 [.int .i64 c.room, .int .i64 c.hand, .slice ac_0 c.frames.length cc_0] 59, base w0] rfl rfl ?_
        refine h_take (i := 0) (ls := #[true, false, false, false, false, false, false, false, false]) rfl (by kernel_rfl) (by kernel_rfl) (by kernel_rfl) (fun _ _ _ h => h) (p_fieldAddr (B := B1) (j := 0) (j' := 0) rfl fo59_0 rfl) rfl rfl rfl (fun _ hw => HeapIs.drop hw (List.Sublist.cons_cons _ (List.Sublist.cons _ (List.Sublist.cons_cons _ (List.Sublist.cons_cons _ (List.Sublist.cons_cons _ (List.Sublist.cons_cons _ (List.Sublist.cons_cons _ (List.Sublist.cons_cons _ (List.Sublist.cons_cons _ (List.Sublist.cons_cons _ (List.Sublist.cons_cons _ (List.Sublist.cons_cons _ (List.Sublist.slnil)))))))))))))) rfl ?_
        refine h_take (i := 1) (ls := #[true, true, false, false, false, false, false, false, false]) rfl (by kernel_rfl) (by kernel_rfl) (by kernel_rfl) (fun _ _ _ h => h) (p_load (i := 9) (v := .int .i64 c.room) rfl rfl sh3 rfl) rfl rfl rfl (fun _ hw => HeapIs.drop hw (List.Sublist.cons_cons _ (List.Sublist.cons _ (List.Sublist.cons_cons _ (List.Sublist.cons_cons _ (List.Sublist.cons_cons _ (List.Sublist.cons_cons _ (List.Sublist.cons_cons _ (List.Sublist.cons_cons _ (List.Sublist.cons_cons _ (List.Sublist.cons_cons _ (List.Sublist.cons_cons _ (List.Sublist.cons_cons _ (List.Sublist.slnil)))))))))))))) rfl ?_
        refine h_take (i := 2) (ls := #[true, true, true, false, false, false, false, false, false]) rfl (by kernel_rfl) (by kernel_rfl) (by kernel_rfl) (fun _ _ _ h => h) (p_fieldAddr (B := B1) (j := 0) (j' := 1) rfl fo59_1 rfl) rfl rfl rfl (fun _ hw => HeapIs.drop hw (List.Sublist.cons_cons _ (List.Sublist.cons _ (List.Sublist.cons_cons _ (List.Sublist.cons_cons _ (List.Sublist.cons_cons _ (List.Sublist.cons_cons _ (List.Sublist.cons_cons _ (List.Sublist.cons_cons _ (List.Sublist.cons_cons _ (List.Sublist.cons_cons _ (List.Sublist.cons_cons _ (List.Sublist.cons_cons _ (List.Sublist.slnil)))))))))))))) rfl ?_
        refine h_take (i := 3) (ls := #[true, true, true, true, false, false, false, false, false]) rfl (by kernel_rfl) (by kernel_rfl) (by kernel_rfl) (fun _ _ _ h => h) (p_load (i := 9) (v := .int .i64 c.hand) rfl rfl sh3 rfl) rfl rfl rfl (fun _ hw => HeapIs.drop hw (List.Sublist.cons_cons _ (List.Sublist.cons _ (List.Sublist.cons_cons _ (List.Sublist.cons_cons _ (List.Sublist.cons_cons _ (List.Sublist.cons_cons _ (List.Sublist.cons_cons _ (List.Sublist.cons_cons _ (List.Sublist.cons_cons _ (List.Sublist.cons_cons _ (List.Sublist.cons_cons _ (List.Sublist.cons_cons _ (List.Sublist.slnil)))))))))))))) rfl ?_
        refine h_take (i := 4) (ls := #[true, true, true, true, true, false, false, false, false]) rfl (by kernel_rfl) (by kernel_rfl) (by kernel_rfl) (fun _ _ _ h => h) (p_fieldAddr (B := B1) (j := 0) (j' := 2) rfl fo59_2 rfl) rfl rfl rfl (fun _ hw => HeapIs.drop hw (List.Sublist.cons_cons _ (List.Sublist.cons _ (List.Sublist.cons_cons _ (List.Sublist.cons_cons _ (List.Sublist.cons_cons _ (List.Sublist.cons_cons _ (List.Sublist.cons_cons _ (List.Sublist.cons_cons _ (List.Sublist.cons_cons _ (List.Sublist.cons_cons _ (List.Sublist.cons_cons _ (List.Sublist.cons_cons _ (List.Sublist.slnil)))))))))))))) rfl ?_
        refine h_take (i := 5) (ls := #[true, true, true, true, true, true, false, false, false]) rfl (by kernel_rfl) (by kernel_rfl) (by kernel_rfl) (fun _ _ _ h => h) (p_load (i := 9) (v := .slice ac_0 c.frames.length cc_0) rfl rfl sh57 rfl) rfl rfl rfl (fun _ hw => HeapIs.drop hw (List.Sublist.cons_cons _ (List.Sublist.cons _ (List.Sublist.cons_cons _ (List.Sublist.cons_cons _ (List.Sublist.cons_cons _ (List.Sublist.cons_cons _ (List.Sublist.cons_cons _ (List.Sublist.cons_cons _ (List.Sublist.cons_cons _ (List.Sublist.cons_cons _ (List.Sublist.cons_cons _ (List.Sublist.cons_cons _ (List.Sublist.slnil)))))))))))))) rfl ?_
        refine h_one (i := 6) (ls := #[true, true, true, true, true, true, true, false, false]) (by kernel_rfl) rfl rfl ?_
        refine o_callM rfl (framesCopy_ok c.frames ac_0 cc_0 (by first | assumption | omega)) hf43 (fun w hw => (rd_base (i := 11) rfl hc_0) w hw) rfl (fun _ _ _ _ ha hA => SlO.agree ha hA) ?_
        rintro ⟨a28_6, c28_6⟩ S28_6
        refine o_nil ?_
        refine h_next (fun _ hw => HeapIs.drop hw (List.Sublist.cons _ (List.Sublist.cons_cons _ (List.Sublist.cons _ (List.Sublist.cons_cons _ (List.Sublist.cons_cons _ (List.Sublist.cons_cons _ (List.Sublist.cons_cons _ (List.Sublist.cons_cons _ (List.Sublist.cons_cons _ (List.Sublist.cons_cons _ (List.Sublist.cons_cons _ (List.Sublist.cons_cons _ (List.Sublist.cons_cons _ (List.Sublist.slnil))))))))))))))) ?_
        refine h_take (i := 7) (ls := #[true, true, true, true, true, true, true, true, false]) rfl (by kernel_rfl) (by kernel_rfl) (by kernel_rfl) (fun _ _ _ h => h) (p_build (cells := [.int .i64 c.room, .int .i64 c.hand, .slice a28_6 c.frames.length c28_6]) fp59 ze59 rfl rfl) rfl rfl rfl (fun _ hw => HeapIs.drop hw (List.Sublist.cons _ (List.Sublist.cons_cons _ (List.Sublist.cons _ (List.Sublist.cons_cons _ (List.Sublist.cons_cons _ (List.Sublist.cons_cons _ (List.Sublist.cons_cons _ (List.Sublist.cons_cons _ (List.Sublist.cons_cons _ (List.Sublist.cons_cons _ (List.Sublist.cons_cons _ (List.Sublist.cons_cons _ (List.Sublist.cons_cons _ (List.Sublist.slnil))))))))))))))) rfl ?_
        refine h_one (i := 8) (ls := #[true, true, true, true, true, true, true, true, true]) (by kernel_rfl) rfl rfl ?_
        refine o_storeN (i := 2) (vs := [.int .i64 c.room, .int .i64 c.hand, .slice a28_6 c.frames.length c28_6]) (cs' := [.int .i64 c.room, .int .i64 c.hand, .slice a28_6 c.frames.length c28_6]) rfl rfl rfl sz59 rfl rfl rfl rfl ?_
        refine o_nil ?_
        refine h_next (fun _ hw => HeapIs.drop hw (List.Sublist.cons _ (List.Sublist.cons_cons _ (List.Sublist.cons _ (List.Sublist.cons_cons _ (List.Sublist.cons_cons _ (List.Sublist.cons_cons _ (List.Sublist.cons_cons _ (List.Sublist.cons_cons _ (List.Sublist.cons_cons _ (List.Sublist.cons_cons _ (List.Sublist.cons_cons _ (List.Sublist.cons_cons _ (List.Sublist.cons_cons _ (List.Sublist.slnil))))))))))))))) ?_
        refine h_done (by kernel_rfl) ?_
        refine q_then ?_
        refine c_seq ?_
        refine c_region ?_
        refine o_pure (p_assign (v := .int .i64 0) rfl) rfl rfl rfl ?_
        refine o_nil ?_
        refine q_then ?_
        refine c_block ?_
        refine c_loop (St := Nat × DClock × Option Addr × Nat × (Nat → Prop))
          (fun ⟨i, tc, atc_0, ctc_0, Stc_0⟩ => [(3, .pointer (some ⟨B1, 0, none⟩)), (7, .pointer (some ⟨B6, 0, none⟩)), (8, .bool ((Clock.access c key).2.1)), (9, .int .i64 ((Clock.access c key).2.2)), (10, .int .i64 (Clock.accessErr c key)), (11, .pointer (some ⟨B11, 0, none⟩)), (12, .int .i64 ((Clock.run c l).2)), (13, .int .i64 (Clock.runErr c l)), (14, .pointer (some ⟨B16, 0, none⟩)), (15, .int .i64 (Clock.check c)), (16, .int .i64 (Clock.check c)), (17, .int .i64 3), (18, .int .i64 (Lru.trace l)), (19, .pointer (some ⟨B17, 0, none⟩)), (20, .pointer (some ⟨B18, 0, none⟩)), (21, .pointer (some ⟨B19, 0, none⟩)), (22, .bool false), (23, .int .i64 0), (24, .int .i64 ((Clock.runGo c 0 l).2)), (25, .int .i64 (i : Int))])
          (fun ⟨i, tc, atc_0, ctc_0, Stc_0⟩ => [own tFrame Stc_0 atc_0 ctc_0 tc.frames, loose tFrame (a26 = ac_0 ∧ c27 = cc_0 ∧ (((Clock.runGo c 0 l).1).frames) = c.frames) S24 a26 c27 (((Clock.runGo c 0 l).1).frames), box B19 [.int .i64 tc.room, .int .i64 tc.hand, .slice atc_0 tc.frames.length ctc_0] 59, box B18 [.int .i64 (((Clock.runGo c 0 l).1).room), .int .i64 (((Clock.runGo c 0 l).1).hand), .slice a26 (((Clock.runGo c 0 l).1).frames).length c27] 59, box B17 [.int .i64 0, .int .i64 0, .slice none 0 0] 59, box B16 [.int .i64 ((Clock.clear c).room), .int .i64 ((Clock.clear c).hand), .slice a14 ((Clock.clear c).frames).length c15] 59, own tFrame S12 a14 c15 ((Clock.clear c).frames), box B11 [.int .i64 (((Clock.run c l).1).room), .int .i64 (((Clock.run c l).1).hand), .slice a9 (((Clock.run c l).1).frames).length c10] 59, own tFrame S7 a9 c10 (((Clock.run c l).1).frames), box B6 [.int .i64 (((Clock.access c key).1).room), .int .i64 (((Clock.access c key).1).hand), .slice a4 (((Clock.access c key).1).frames).length c5] 59, own tFrame S2 a4 c5 (((Clock.access c key).1).frames), box B1 [.int .i64 c.room, .int .i64 c.hand, .slice ac_0 c.frames.length cc_0] 59, base w0])
          (fun ⟨i, tc, atc_0, ctc_0, Stc_0⟩ => tc.room = c.room ∧ tc.hand = c.hand ∧ Clock.UInv c.frames tc.frames i)
          (fun ⟨i, tc, atc_0, ctc_0, Stc_0⟩ => c.frames.length - i)
          (0, c, a28_6, c28_6, S28_6) ?_ (Sub.cons rfl (Sub.cons rfl (Sub.cons rfl (Sub.cons rfl (Sub.cons rfl (Sub.cons rfl (Sub.cons rfl (Sub.cons rfl (Sub.cons rfl (Sub.cons rfl (Sub.cons rfl (Sub.cons rfl (Sub.cons rfl (Sub.cons rfl (Sub.cons rfl (Sub.cons rfl (Sub.cons rfl (Sub.cons rfl (Sub.cons rfl (Sub.cons rfl (Sub.nil _))))))))))))))))))))) (fun _ hw => hw) ?_
        · exact ⟨rfl, rfl, Clock.UInv.start _⟩
        rintro ⟨i, tc, atc_0, ctc_0, Stc_0⟩ hI K hK29
        have hul := hI.2.2.len
        show SC Try.prog 147 w0 _ _ [(3, .pointer (some ⟨B1, 0, none⟩)), (7, .pointer (some ⟨B6, 0, none⟩)), (8, .bool ((Clock.access c key).2.1)), (9, .int .i64 ((Clock.access c key).2.2)), (10, .int .i64 (Clock.accessErr c key)), (11, .pointer (some ⟨B11, 0, none⟩)), (12, .int .i64 ((Clock.run c l).2)), (13, .int .i64 (Clock.runErr c l)), (14, .pointer (some ⟨B16, 0, none⟩)), (15, .int .i64 (Clock.check c)), (16, .int .i64 (Clock.check c)), (17, .int .i64 3), (18, .int .i64 (Lru.trace l)), (19, .pointer (some ⟨B17, 0, none⟩)), (20, .pointer (some ⟨B18, 0, none⟩)), (21, .pointer (some ⟨B19, 0, none⟩)), (22, .bool false), (23, .int .i64 0), (24, .int .i64 ((Clock.runGo c 0 l).2)), (25, .int .i64 (i : Int))] [own tFrame Stc_0 atc_0 ctc_0 tc.frames, loose tFrame (a26 = ac_0 ∧ c27 = cc_0 ∧ (((Clock.runGo c 0 l).1).frames) = c.frames) S24 a26 c27 (((Clock.runGo c 0 l).1).frames), box B19 [.int .i64 tc.room, .int .i64 tc.hand, .slice atc_0 tc.frames.length ctc_0] 59, box B18 [.int .i64 (((Clock.runGo c 0 l).1).room), .int .i64 (((Clock.runGo c 0 l).1).hand), .slice a26 (((Clock.runGo c 0 l).1).frames).length c27] 59, box B17 [.int .i64 0, .int .i64 0, .slice none 0 0] 59, box B16 [.int .i64 ((Clock.clear c).room), .int .i64 ((Clock.clear c).hand), .slice a14 ((Clock.clear c).frames).length c15] 59, own tFrame S12 a14 c15 ((Clock.clear c).frames), box B11 [.int .i64 (((Clock.run c l).1).room), .int .i64 (((Clock.run c l).1).hand), .slice a9 (((Clock.run c l).1).frames).length c10] 59, own tFrame S7 a9 c10 (((Clock.run c l).1).frames), box B6 [.int .i64 (((Clock.access c key).1).room), .int .i64 (((Clock.access c key).1).hand), .slice a4 (((Clock.access c key).1).frames).length c5] 59, own tFrame S2 a4 c5 (((Clock.access c key).1).frames), box B1 [.int .i64 c.room, .int .i64 c.hand, .slice ac_0 c.frames.length cc_0] 59, base w0]
        refine c_seq ?_
        refine c_seq ?_
        refine c_region ?_
        refine o_pure (p_move (v := .int .i64 (i : Int)) rfl) rfl rfl rfl ?_
        refine o_pure (p_fieldAddr (B := B19) (j := 0) (j' := 2) rfl fo59_2 rfl) rfl rfl rfl ?_
        refine o_pure (p_load (i := 2) (v := .slice atc_0 tc.frames.length ctc_0) rfl rfl sh57 rfl) rfl rfl rfl ?_
        refine o_pure (p_len_slice (len := tc.frames.length) rfl rfl Try.underlying57) rfl rfl rfl ?_
        refine o_pure (p_lt (p := (i : Int)) (q := (tc.frames.length : Int)) rfl rfl) rfl rfl rfl ?_
        refine o_nil ?_
        refine q_then ?_
        refine c_cond (b := decide ((i : Int) < (tc.frames.length : Int))) rfl (fun hc30 => ?_) (fun hc30 => ?_)
        · simp only [decide_eq_true_eq] at hc30
          refine c_skip ?_
          refine q_then ?_
          refine c_seq ?_
          refine c_block ?_
          refine c_region ?_
          refine o_pure (p_fieldAddr (B := B19) (j := 0) (j' := 2) rfl fo59_2 rfl) rfl rfl rfl ?_
          refine o_pure (p_load (i := 2) (v := .slice atc_0 tc.frames.length ctc_0) rfl rfl sh57 rfl) rfl rfl rfl ?_
          refine o_pure (p_move (v := .int .i64 (i : Int)) rfl) rfl rfl rfl ?_
          refine o_pure (p_indexAddr (L := tc.frames) (T := tFrame) (i := (i : Int)) rfl rfl (rd_own (i := 0) rfl) Try.underlying57 sz73 (by omega) (by omega)) rfl rfl rfl ?_
          refine o_pure (p_fieldAddrE rfl fo73_1) rfl rfl rfl ?_
          refine o_storeF (j := 1) (i := 0) (T := tFrame) (idx := i) (v := .bool false) (vs := [.bool false]) (z := (⟨(tc.frames[i]).key, false⟩ : DFrame)) (F' := [(3, .pointer (some ⟨B1, 0, none⟩)), (7, .pointer (some ⟨B6, 0, none⟩)), (8, .bool ((Clock.access c key).2.1)), (9, .int .i64 ((Clock.access c key).2.2)), (10, .int .i64 (Clock.accessErr c key)), (11, .pointer (some ⟨B11, 0, none⟩)), (12, .int .i64 ((Clock.run c l).2)), (13, .int .i64 (Clock.runErr c l)), (14, .pointer (some ⟨B16, 0, none⟩)), (15, .int .i64 (Clock.check c)), (16, .int .i64 (Clock.check c)), (17, .int .i64 3), (18, .int .i64 (Lru.trace l)), (19, .pointer (some ⟨B17, 0, none⟩)), (20, .pointer (some ⟨B18, 0, none⟩)), (21, .pointer (some ⟨B19, 0, none⟩)), (22, .bool false), (23, .int .i64 0), (24, .int .i64 ((Clock.runGo c 0 l).2)), (25, .int .i64 (i : Int))]) rfl rfl rfl rfl (by first | assumption | omega | (simp only [List.length_set]; omega)) sz4 rfl rfl rfl rfl (Sub.cons rfl (Sub.cons rfl (Sub.cons rfl (Sub.cons rfl (Sub.cons rfl (Sub.cons rfl (Sub.cons rfl (Sub.cons rfl (Sub.cons rfl (Sub.cons rfl (Sub.cons rfl (Sub.cons rfl (Sub.cons rfl (Sub.cons rfl (Sub.cons rfl (Sub.cons rfl (Sub.cons rfl (Sub.cons rfl (Sub.cons rfl (Sub.cons rfl (Sub.nil _))))))))))))))))))))) ?_
          refine o_asH (H := [own tFrame Stc_0 atc_0 ctc_0 (tc.frames.set i (⟨(tc.frames[i]).key, false⟩ : DFrame)), loose tFrame (a26 = ac_0 ∧ c27 = cc_0 ∧ (((Clock.runGo c 0 l).1).frames) = c.frames) S24 a26 c27 (((Clock.runGo c 0 l).1).frames), box B19 [.int .i64 tc.room, .int .i64 tc.hand, .slice atc_0 tc.frames.length ctc_0] 59, box B18 [.int .i64 (((Clock.runGo c 0 l).1).room), .int .i64 (((Clock.runGo c 0 l).1).hand), .slice a26 (((Clock.runGo c 0 l).1).frames).length c27] 59, box B17 [.int .i64 0, .int .i64 0, .slice none 0 0] 59, box B16 [.int .i64 ((Clock.clear c).room), .int .i64 ((Clock.clear c).hand), .slice a14 ((Clock.clear c).frames).length c15] 59, own tFrame S12 a14 c15 ((Clock.clear c).frames), box B11 [.int .i64 (((Clock.run c l).1).room), .int .i64 (((Clock.run c l).1).hand), .slice a9 (((Clock.run c l).1).frames).length c10] 59, own tFrame S7 a9 c10 (((Clock.run c l).1).frames), box B6 [.int .i64 (((Clock.access c key).1).room), .int .i64 (((Clock.access c key).1).hand), .slice a4 (((Clock.access c key).1).frames).length c5] 59, own tFrame S2 a4 c5 (((Clock.access c key).1).frames), box B1 [.int .i64 c.room, .int .i64 c.hand, .slice ac_0 c.frames.length cc_0] 59, base w0]) (H' := [own tFrame Stc_0 atc_0 ctc_0 (tc.frames.set i (⟨(tc.frames[i]).key, false⟩ : DFrame)), loose tFrame (a26 = ac_0 ∧ c27 = cc_0 ∧ (((Clock.runGo c 0 l).1).frames) = c.frames) S24 a26 c27 (((Clock.runGo c 0 l).1).frames), box B19 [.int .i64 tc.room, .int .i64 tc.hand, .slice atc_0 (tc.frames.set i (⟨(tc.frames[i]).key, false⟩ : DFrame)).length ctc_0] 59, box B18 [.int .i64 (((Clock.runGo c 0 l).1).room), .int .i64 (((Clock.runGo c 0 l).1).hand), .slice a26 (((Clock.runGo c 0 l).1).frames).length c27] 59, box B17 [.int .i64 0, .int .i64 0, .slice none 0 0] 59, box B16 [.int .i64 ((Clock.clear c).room), .int .i64 ((Clock.clear c).hand), .slice a14 ((Clock.clear c).frames).length c15] 59, own tFrame S12 a14 c15 ((Clock.clear c).frames), box B11 [.int .i64 (((Clock.run c l).1).room), .int .i64 (((Clock.run c l).1).hand), .slice a9 (((Clock.run c l).1).frames).length c10] 59, own tFrame S7 a9 c10 (((Clock.run c l).1).frames), box B6 [.int .i64 (((Clock.access c key).1).room), .int .i64 (((Clock.access c key).1).hand), .slice a4 (((Clock.access c key).1).frames).length c5] 59, own tFrame S2 a4 c5 (((Clock.access c key).1).frames), box B1 [.int .i64 c.room, .int .i64 c.hand, .slice ac_0 c.frames.length cc_0] 59, base w0]) (by simp only [List.length_set]) ?_
          refine o_nil ?_
          refine q_block_normal (q_then ?_)
          refine c_region ?_
          refine o_pure (p_move (v := .int .i64 (i : Int)) rfl) rfl rfl rfl ?_
          refine o_pure (p_addb (p := (i : Int)) (q := 1) rfl rfl (by omega)) rfl rfl rfl ?_
          refine o_pure (p_assign (v := .int .i64 ((i : Int) + 1)) rfl) rfl rfl rfl ?_
          refine o_nil ?_
          refine q_round hK29 (i + 1, (⟨tc.room, tc.hand, (tc.frames.set i (⟨(tc.frames[i]).key, false⟩ : DFrame))⟩ : DClock), atc_0, ctc_0, Stc_0) ?_ ?_ ?_ ?_
          · clear hK29
            exact ⟨hI.1, hI.2.1, hI.2.2.next (by omega) (by omega)⟩
          · (try dsimp only); omega
          · exact Sub.cons rfl (Sub.cons rfl (Sub.cons rfl (Sub.cons rfl (Sub.cons rfl (Sub.cons rfl (Sub.cons rfl (Sub.cons rfl (Sub.cons rfl (Sub.cons rfl (Sub.cons rfl (Sub.cons rfl (Sub.cons rfl (Sub.cons rfl (Sub.cons rfl (Sub.cons rfl (Sub.cons rfl (Sub.cons rfl (Sub.cons rfl (Sub.cons rfl (Sub.nil _))))))))))))))))))))
          · exact fun _ hw => HeapIs.pick hw [0, 1, 2, 3, 4, 5, 6, 7, 8, 9, 10, 11, 12] (by decide) rfl
        · simp only [decide_eq_false_iff_not, Int.not_lt] at hc30
          refine c_exit ?_
          refine q_then_exit (q_then_exit (q_block_exit (q_then ?_)))
          refine c_seq ?_
          refine c_region ?_
          refine o_call0 (v := .bool true) rfl (clockBegun_ok ) hf44 (fun _ _ => trivial) rfl ?_
          refine o_pure (p_move (v := .bool true) rfl) rfl rfl rfl ?_
          refine o_unguard 96 rfl rfl ?_
          refine o_pure (p_load_agg (i := 11) (vs := [.int .i64 c.room, .int .i64 c.hand, .slice ac_0 c.frames.length cc_0]) rfl rfl sh59 rfl rfl) rfl rfl rfl ?_
          refine o_unguard 96 rfl rfl ?_
          refine o_call0 (v := .int .i64 (Clock.check c)) rfl (ccheck_ok c ac_0 cc_0) hf45 (fun w hw => (rd_base (i := 12) rfl hc_0) w hw) rfl ?_
          refine o_unguard 96 rfl rfl ?_
          refine o_pure (p_move (v := .int .i64 (Clock.check c)) rfl) rfl rfl rfl ?_
          refine o_unguard 96 rfl rfl ?_
          refine o_pure (p_eq (p := (Clock.check c)) (q := (Clock.check c)) rfl rfl) rfl rfl rfl ?_
          refine o_pure (p_pick_true (u := .bool ((Clock.check c) == (Clock.check c))) rfl rfl) rfl rfl rfl ?_
          refine o_pure (p_move (v := .bool ((Clock.check c) == (Clock.check c))) rfl) rfl rfl rfl ?_
          refine o_and (p := 106) 4 (decide (((Clock.access c key).1) = (⟨0, 0, []⟩ : DClock))) ?_ ?_ ?_
          · intro hb31 hk
            simp only [beq_iff_eq] at hb31
            refine o_unguard 102 rfl rfl ?_
            refine o_pure (p_load_agg (i := 9) (vs := [.int .i64 (((Clock.access c key).1).room), .int .i64 (((Clock.access c key).1).hand), .slice a4 (((Clock.access c key).1).frames).length c5]) rfl rfl sh59 rfl rfl) rfl rfl rfl ?_
            refine o_unguard 102 rfl rfl ?_
            refine o_pure (p_load_agg (i := 4) (vs := [.int .i64 0, .int .i64 0, .slice none 0 0]) rfl rfl sh59 rfl rfl) rfl rfl rfl ?_
            refine o_unguard 102 rfl rfl ?_
            refine o_call0 (v := .bool (decide (((Clock.access c key).1) = (⟨0, 0, []⟩ : DClock)))) rfl (sameClock_ok ((Clock.access c key).1) a4 c5 (⟨0, 0, []⟩ : DClock) none 0) hf46 (fun w hw => ⟨(rd_own (i := 10) rfl) w hw, rd_nil w hw⟩) rfl ?_
            refine o_pure (p_pick_true (u := .bool (decide (((Clock.access c key).1) = (⟨0, 0, []⟩ : DClock)))) rfl rfl) rfl rfl rfl ?_
            exact o_sub (Sub.cons rfl (Sub.skip rfl (Sub.skip rfl (Sub.skip rfl (Sub.skip rfl (Sub.skip rfl (Sub.refl _))))))) hk
          · intro hb31 hk
            refine o_guard_no rfl 102 rfl rfl rfl rfl rfl ?_
            refine o_guard_no rfl 102 rfl rfl rfl rfl rfl ?_
            refine o_guard_no rfl 102 rfl rfl rfl rfl rfl ?_
            refine o_pure (p_pick_false (v := .bool false) rfl rfl) rfl rfl rfl ?_
            exact o_sub (Sub.cons rfl (Sub.skip rfl (Sub.skip rfl (Sub.skip rfl (Sub.skip rfl (Sub.skip rfl (Sub.refl _))))))) hk
          refine o_pure (p_move (v := .bool (((Clock.check c) == (Clock.check c)) && (decide (((Clock.access c key).1) = (⟨0, 0, []⟩ : DClock))))) rfl) rfl rfl rfl ?_
          refine o_and (p := 111) 4 (((Clock.access c key).2.1) == false) ?_ ?_ ?_
          · intro hb32 hk
            simp only [Bool.and_eq_true, beq_iff_eq, decide_eq_true_eq] at hb32
            refine o_unguard 107 rfl rfl ?_
            refine o_pure (p_move (v := .bool ((Clock.access c key).2.1)) rfl) rfl rfl rfl ?_
            refine o_unguard 107 rfl rfl ?_
            refine o_pure (p_move (v := .bool false) rfl) rfl rfl rfl ?_
            refine o_unguard 107 rfl rfl ?_
            refine o_pure (p_eqBool (b := ((Clock.access c key).2.1)) (c := false) rfl rfl Try.underlying4) rfl rfl rfl ?_
            refine o_pure (p_pick_true (u := .bool (((Clock.access c key).2.1) == false)) rfl rfl) rfl rfl rfl ?_
            exact o_sub (Sub.cons rfl (Sub.skip rfl (Sub.skip rfl (Sub.skip rfl (Sub.skip rfl (Sub.skip rfl (Sub.refl _))))))) hk
          · intro hb32 hk
            refine o_guard_no rfl 107 rfl rfl rfl rfl rfl ?_
            refine o_guard_no rfl 107 rfl rfl rfl rfl rfl ?_
            refine o_guard_no rfl 107 rfl rfl rfl rfl rfl ?_
            refine o_pure (p_pick_false (v := .bool false) rfl rfl) rfl rfl rfl ?_
            exact o_sub (Sub.cons rfl (Sub.skip rfl (Sub.skip rfl (Sub.skip rfl (Sub.skip rfl (Sub.skip rfl (Sub.refl _))))))) hk
          refine o_pure (p_move (v := .bool ((((Clock.check c) == (Clock.check c)) && (decide (((Clock.access c key).1) = (⟨0, 0, []⟩ : DClock)))) && (((Clock.access c key).2.1) == false))) rfl) rfl rfl rfl ?_
          refine o_and (p := 116) 4 (((Clock.access c key).2.2) == 0) ?_ ?_ ?_
          · intro hb33 hk
            simp only [Bool.and_eq_true, beq_iff_eq, decide_eq_true_eq] at hb33
            refine o_unguard 112 rfl rfl ?_
            refine o_pure (p_move (v := .int .i64 ((Clock.access c key).2.2)) rfl) rfl rfl rfl ?_
            refine o_unguard 112 rfl rfl ?_
            refine o_pure (p_move (v := .int .i64 0) rfl) rfl rfl rfl ?_
            refine o_unguard 112 rfl rfl ?_
            refine o_pure (p_eq (p := ((Clock.access c key).2.2)) (q := 0) rfl rfl) rfl rfl rfl ?_
            refine o_pure (p_pick_true (u := .bool (((Clock.access c key).2.2) == 0)) rfl rfl) rfl rfl rfl ?_
            exact o_sub (Sub.cons rfl (Sub.skip rfl (Sub.skip rfl (Sub.skip rfl (Sub.skip rfl (Sub.skip rfl (Sub.refl _))))))) hk
          · intro hb33 hk
            refine o_guard_no rfl 112 rfl rfl rfl rfl rfl ?_
            refine o_guard_no rfl 112 rfl rfl rfl rfl rfl ?_
            refine o_guard_no rfl 112 rfl rfl rfl rfl rfl ?_
            refine o_pure (p_pick_false (v := .bool false) rfl rfl) rfl rfl rfl ?_
            exact o_sub (Sub.cons rfl (Sub.skip rfl (Sub.skip rfl (Sub.skip rfl (Sub.skip rfl (Sub.skip rfl (Sub.refl _))))))) hk
          refine o_pure (p_move (v := .bool (((((Clock.check c) == (Clock.check c)) && (decide (((Clock.access c key).1) = (⟨0, 0, []⟩ : DClock)))) && (((Clock.access c key).2.1) == false)) && (((Clock.access c key).2.2) == 0))) rfl) rfl rfl rfl ?_
          refine o_and (p := 121) 4 ((Clock.accessErr c key) == 3) ?_ ?_ ?_
          · intro hb34 hk
            simp only [Bool.and_eq_true, beq_iff_eq, decide_eq_true_eq] at hb34
            refine o_unguard 117 rfl rfl ?_
            refine o_pure (p_move (v := .int .i64 (Clock.accessErr c key)) rfl) rfl rfl rfl ?_
            refine o_unguard 117 rfl rfl ?_
            refine o_pure (p_move (v := .int .i64 3) rfl) rfl rfl rfl ?_
            refine o_unguard 117 rfl rfl ?_
            refine o_pure (p_eq (p := (Clock.accessErr c key)) (q := 3) rfl rfl) rfl rfl rfl ?_
            refine o_pure (p_pick_true (u := .bool ((Clock.accessErr c key) == 3)) rfl rfl) rfl rfl rfl ?_
            exact o_sub (Sub.cons rfl (Sub.skip rfl (Sub.skip rfl (Sub.skip rfl (Sub.skip rfl (Sub.skip rfl (Sub.refl _))))))) hk
          · intro hb34 hk
            refine o_guard_no rfl 117 rfl rfl rfl rfl rfl ?_
            refine o_guard_no rfl 117 rfl rfl rfl rfl rfl ?_
            refine o_guard_no rfl 117 rfl rfl rfl rfl rfl ?_
            refine o_pure (p_pick_false (v := .bool false) rfl rfl) rfl rfl rfl ?_
            exact o_sub (Sub.cons rfl (Sub.skip rfl (Sub.skip rfl (Sub.skip rfl (Sub.skip rfl (Sub.skip rfl (Sub.refl _))))))) hk
          refine o_pure (p_move (v := .bool ((((((Clock.check c) == (Clock.check c)) && (decide (((Clock.access c key).1) = (⟨0, 0, []⟩ : DClock)))) && (((Clock.access c key).2.1) == false)) && (((Clock.access c key).2.2) == 0)) && ((Clock.accessErr c key) == 3))) rfl) rfl rfl rfl ?_
          refine o_and (p := 126) 4 (decide (((Clock.run c l).1) = ((Clock.runGo c 0 l).1))) ?_ ?_ ?_
          · intro hb35 hk
            simp only [Bool.and_eq_true, beq_iff_eq, decide_eq_true_eq] at hb35
            refine o_unguard 122 rfl rfl ?_
            refine o_pure (p_load_agg (i := 7) (vs := [.int .i64 (((Clock.run c l).1).room), .int .i64 (((Clock.run c l).1).hand), .slice a9 (((Clock.run c l).1).frames).length c10]) rfl rfl sh59 rfl rfl) rfl rfl rfl ?_
            refine o_unguard 122 rfl rfl ?_
            refine o_pure (p_load_agg (i := 3) (vs := [.int .i64 (((Clock.runGo c 0 l).1).room), .int .i64 (((Clock.runGo c 0 l).1).hand), .slice a26 (((Clock.runGo c 0 l).1).frames).length c27]) rfl rfl sh59 rfl rfl) rfl rfl rfl ?_
            refine o_unguard 122 rfl rfl ?_
            refine o_call0 (v := .bool (decide (((Clock.run c l).1) = ((Clock.runGo c 0 l).1)))) rfl (sameClock_ok ((Clock.run c l).1) a9 c10 ((Clock.runGo c 0 l).1) a26 c27) hf46 (fun w hw => ⟨(rd_own (i := 8) rfl) w hw, (rd_loose (i := 1) rfl (fun hφ => by obtain ⟨h1, h2, h3⟩ := hφ; rw [h1, h2, h3]; exact (rd_base (i := 12) rfl hc_0))) w hw⟩) rfl ?_
            refine o_pure (p_pick_true (u := .bool (decide (((Clock.run c l).1) = ((Clock.runGo c 0 l).1)))) rfl rfl) rfl rfl rfl ?_
            exact o_sub (Sub.cons rfl (Sub.skip rfl (Sub.skip rfl (Sub.skip rfl (Sub.skip rfl (Sub.skip rfl (Sub.refl _))))))) hk
          · intro hb35 hk
            refine o_guard_no rfl 122 rfl rfl rfl rfl rfl ?_
            refine o_guard_no rfl 122 rfl rfl rfl rfl rfl ?_
            refine o_guard_no rfl 122 rfl rfl rfl rfl rfl ?_
            refine o_pure (p_pick_false (v := .bool false) rfl rfl) rfl rfl rfl ?_
            exact o_sub (Sub.cons rfl (Sub.skip rfl (Sub.skip rfl (Sub.skip rfl (Sub.skip rfl (Sub.skip rfl (Sub.refl _))))))) hk
          refine o_pure (p_move (v := .bool (((((((Clock.check c) == (Clock.check c)) && (decide (((Clock.access c key).1) = (⟨0, 0, []⟩ : DClock)))) && (((Clock.access c key).2.1) == false)) && (((Clock.access c key).2.2) == 0)) && ((Clock.accessErr c key) == 3)) && (decide (((Clock.run c l).1) = ((Clock.runGo c 0 l).1))))) rfl) rfl rfl rfl ?_
          refine o_and (p := 131) 4 (((Clock.run c l).2) == ((Clock.runGo c 0 l).2)) ?_ ?_ ?_
          · intro hb36 hk
            simp only [Bool.and_eq_true, beq_iff_eq, decide_eq_true_eq] at hb36
            refine o_unguard 127 rfl rfl ?_
            refine o_pure (p_move (v := .int .i64 ((Clock.run c l).2)) rfl) rfl rfl rfl ?_
            refine o_unguard 127 rfl rfl ?_
            refine o_pure (p_move (v := .int .i64 ((Clock.runGo c 0 l).2)) rfl) rfl rfl rfl ?_
            refine o_unguard 127 rfl rfl ?_
            refine o_pure (p_eq (p := ((Clock.run c l).2)) (q := ((Clock.runGo c 0 l).2)) rfl rfl) rfl rfl rfl ?_
            refine o_pure (p_pick_true (u := .bool (((Clock.run c l).2) == ((Clock.runGo c 0 l).2))) rfl rfl) rfl rfl rfl ?_
            exact o_sub (Sub.cons rfl (Sub.skip rfl (Sub.skip rfl (Sub.skip rfl (Sub.skip rfl (Sub.skip rfl (Sub.refl _))))))) hk
          · intro hb36 hk
            refine o_guard_no rfl 127 rfl rfl rfl rfl rfl ?_
            refine o_guard_no rfl 127 rfl rfl rfl rfl rfl ?_
            refine o_guard_no rfl 127 rfl rfl rfl rfl rfl ?_
            refine o_pure (p_pick_false (v := .bool false) rfl rfl) rfl rfl rfl ?_
            exact o_sub (Sub.cons rfl (Sub.skip rfl (Sub.skip rfl (Sub.skip rfl (Sub.skip rfl (Sub.skip rfl (Sub.refl _))))))) hk
          refine o_pure (p_move (v := .bool ((((((((Clock.check c) == (Clock.check c)) && (decide (((Clock.access c key).1) = (⟨0, 0, []⟩ : DClock)))) && (((Clock.access c key).2.1) == false)) && (((Clock.access c key).2.2) == 0)) && ((Clock.accessErr c key) == 3)) && (decide (((Clock.run c l).1) = ((Clock.runGo c 0 l).1)))) && (((Clock.run c l).2) == ((Clock.runGo c 0 l).2)))) rfl) rfl rfl rfl ?_
          refine o_and (p := 136) 4 ((Clock.runErr c l) == (Lru.trace l)) ?_ ?_ ?_
          · intro hb37 hk
            simp only [Bool.and_eq_true, beq_iff_eq, decide_eq_true_eq] at hb37
            refine o_unguard 132 rfl rfl ?_
            refine o_pure (p_move (v := .int .i64 (Clock.runErr c l)) rfl) rfl rfl rfl ?_
            refine o_unguard 132 rfl rfl ?_
            refine o_pure (p_move (v := .int .i64 (Lru.trace l)) rfl) rfl rfl rfl ?_
            refine o_unguard 132 rfl rfl ?_
            refine o_pure (p_eq (p := (Clock.runErr c l)) (q := (Lru.trace l)) rfl rfl) rfl rfl rfl ?_
            refine o_pure (p_pick_true (u := .bool ((Clock.runErr c l) == (Lru.trace l))) rfl rfl) rfl rfl rfl ?_
            exact o_sub (Sub.cons rfl (Sub.skip rfl (Sub.skip rfl (Sub.skip rfl (Sub.skip rfl (Sub.skip rfl (Sub.refl _))))))) hk
          · intro hb37 hk
            refine o_guard_no rfl 132 rfl rfl rfl rfl rfl ?_
            refine o_guard_no rfl 132 rfl rfl rfl rfl rfl ?_
            refine o_guard_no rfl 132 rfl rfl rfl rfl rfl ?_
            refine o_pure (p_pick_false (v := .bool false) rfl rfl) rfl rfl rfl ?_
            exact o_sub (Sub.cons rfl (Sub.skip rfl (Sub.skip rfl (Sub.skip rfl (Sub.skip rfl (Sub.skip rfl (Sub.refl _))))))) hk
          refine o_pure (p_move (v := .bool (((((((((Clock.check c) == (Clock.check c)) && (decide (((Clock.access c key).1) = (⟨0, 0, []⟩ : DClock)))) && (((Clock.access c key).2.1) == false)) && (((Clock.access c key).2.2) == 0)) && ((Clock.accessErr c key) == 3)) && (decide (((Clock.run c l).1) = ((Clock.runGo c 0 l).1)))) && (((Clock.run c l).2) == ((Clock.runGo c 0 l).2))) && ((Clock.runErr c l) == (Lru.trace l)))) rfl) rfl rfl rfl ?_
          refine o_and (p := 141) 4 (decide ((Clock.clear c) = tc)) ?_ ?_ ?_
          · intro hb38 hk
            simp only [Bool.and_eq_true, beq_iff_eq, decide_eq_true_eq] at hb38
            refine o_unguard 137 rfl rfl ?_
            refine o_pure (p_load_agg (i := 5) (vs := [.int .i64 ((Clock.clear c).room), .int .i64 ((Clock.clear c).hand), .slice a14 ((Clock.clear c).frames).length c15]) rfl rfl sh59 rfl rfl) rfl rfl rfl ?_
            refine o_unguard 137 rfl rfl ?_
            refine o_pure (p_load_agg (i := 2) (vs := [.int .i64 tc.room, .int .i64 tc.hand, .slice atc_0 tc.frames.length ctc_0]) rfl rfl sh59 rfl rfl) rfl rfl rfl ?_
            refine o_unguard 137 rfl rfl ?_
            refine o_call0 (v := .bool (decide ((Clock.clear c) = tc))) rfl (sameClock_ok (Clock.clear c) a14 c15 tc atc_0 ctc_0) hf46 (fun w hw => ⟨(rd_own (i := 6) rfl) w hw, (rd_own (i := 0) rfl) w hw⟩) rfl ?_
            refine o_pure (p_pick_true (u := .bool (decide ((Clock.clear c) = tc))) rfl rfl) rfl rfl rfl ?_
            exact o_sub (Sub.cons rfl (Sub.skip rfl (Sub.skip rfl (Sub.skip rfl (Sub.skip rfl (Sub.skip rfl (Sub.refl _))))))) hk
          · intro hb38 hk
            refine o_guard_no rfl 137 rfl rfl rfl rfl rfl ?_
            refine o_guard_no rfl 137 rfl rfl rfl rfl rfl ?_
            refine o_guard_no rfl 137 rfl rfl rfl rfl rfl ?_
            refine o_pure (p_pick_false (v := .bool false) rfl rfl) rfl rfl rfl ?_
            exact o_sub (Sub.cons rfl (Sub.skip rfl (Sub.skip rfl (Sub.skip rfl (Sub.skip rfl (Sub.skip rfl (Sub.refl _))))))) hk
          refine o_pure (p_move (v := .bool ((((((((((Clock.check c) == (Clock.check c)) && (decide (((Clock.access c key).1) = (⟨0, 0, []⟩ : DClock)))) && (((Clock.access c key).2.1) == false)) && (((Clock.access c key).2.2) == 0)) && ((Clock.accessErr c key) == 3)) && (decide (((Clock.run c l).1) = ((Clock.runGo c 0 l).1)))) && (((Clock.run c l).2) == ((Clock.runGo c 0 l).2))) && ((Clock.runErr c l) == (Lru.trace l))) && (decide ((Clock.clear c) = tc)))) rfl) rfl rfl rfl ?_
          refine o_and (p := 146) 4 ((Clock.check c) == (Clock.check c)) ?_ ?_ ?_
          · intro hb39 hk
            simp only [Bool.and_eq_true, beq_iff_eq, decide_eq_true_eq] at hb39
            refine o_unguard 142 rfl rfl ?_
            refine o_pure (p_move (v := .int .i64 (Clock.check c)) rfl) rfl rfl rfl ?_
            refine o_unguard 142 rfl rfl ?_
            refine o_pure (p_move (v := .int .i64 (Clock.check c)) rfl) rfl rfl rfl ?_
            refine o_unguard 142 rfl rfl ?_
            refine o_pure (p_eq (p := (Clock.check c)) (q := (Clock.check c)) rfl rfl) rfl rfl rfl ?_
            refine o_pure (p_pick_true (u := .bool ((Clock.check c) == (Clock.check c))) rfl rfl) rfl rfl rfl ?_
            exact o_sub (Sub.cons rfl (Sub.skip rfl (Sub.skip rfl (Sub.skip rfl (Sub.skip rfl (Sub.skip rfl (Sub.refl _))))))) hk
          · intro hb39 hk
            refine o_guard_no rfl 142 rfl rfl rfl rfl rfl ?_
            refine o_guard_no rfl 142 rfl rfl rfl rfl rfl ?_
            refine o_guard_no rfl 142 rfl rfl rfl rfl rfl ?_
            refine o_pure (p_pick_false (v := .bool false) rfl rfl) rfl rfl rfl ?_
            exact o_sub (Sub.cons rfl (Sub.skip rfl (Sub.skip rfl (Sub.skip rfl (Sub.skip rfl (Sub.skip rfl (Sub.refl _))))))) hk
          refine o_pure (p_assign (v := .bool (((((((((((Clock.check c) == (Clock.check c)) && (decide (((Clock.access c key).1) = (⟨0, 0, []⟩ : DClock)))) && (((Clock.access c key).2.1) == false)) && (((Clock.access c key).2.2) == 0)) && ((Clock.accessErr c key) == 3)) && (decide (((Clock.run c l).1) = ((Clock.runGo c 0 l).1)))) && (((Clock.run c l).2) == ((Clock.runGo c 0 l).2))) && ((Clock.runErr c l) == (Lru.trace l))) && (decide ((Clock.clear c) = tc))) && ((Clock.check c) == (Clock.check c)))) rfl) rfl rfl rfl ?_
          refine o_nil ?_
          refine q_then ?_
          refine c_ret ?_
          have hr0 : ((((((((((((Clock.check c) == (Clock.check c)) && (decide (((Clock.access c key).1) = (⟨0, 0, []⟩ : DClock)))) && (((Clock.access c key).2.1) == false)) && (((Clock.access c key).2.2) == 0)) && ((Clock.accessErr c key) == 3)) && (decide (((Clock.run c l).1) = ((Clock.runGo c 0 l).1)))) && (((Clock.run c l).2) == ((Clock.runGo c 0 l).2))) && ((Clock.runErr c l) == (Lru.trace l))) && (decide ((Clock.clear c) = tc))) && ((Clock.check c) == (Clock.check c))) : Bool) = true := by
            rcases Clock.acc_cases c key with ⟨a0, a1, a2⟩ | ⟨a0, a3, a1, a2⟩ | ⟨a0, a3, a1, a2⟩ <;> rcases Clock.run_cases c l with ⟨b0, b1, b2⟩ | ⟨b0, b3, b1, b2⟩ | ⟨b0, b3, b1, b2⟩ <;> first | (exfalso; omega) | (rw [a1, a2, b1, b2]; first | (rw [Clock.clear_bad a0]; simp [Clock.zero]) | (rw [Clock.clear_ok a0, Clock.turn_eq hI (by omega)]; first | (simp [Clock.zero, a0]; done) | simp [Clock.zero, a0, b3]))
          refine q_end0 (v := .bool (((((((((((Clock.check c) == (Clock.check c)) && (decide (((Clock.access c key).1) = (⟨0, 0, []⟩ : DClock)))) && (((Clock.access c key).2.1) == false)) && (((Clock.access c key).2.2) == 0)) && ((Clock.accessErr c key) == 3)) && (decide (((Clock.run c l).1) = ((Clock.runGo c 0 l).1)))) && (((Clock.run c l).2) == ((Clock.runGo c 0 l).2))) && ((Clock.runErr c l) == (Lru.trace l))) && (decide ((Clock.clear c) = tc))) && ((Clock.check c) == (Clock.check c)))) (rt1 rfl (r_tmp rfl)) (i := 12) rfl ?_
          exact (by have hcc := congrArg (fun (y0 : Bool) => (.bool y0 : Value)) hr0; exact hcc)
      · simp only [beq_eq_false_iff_ne, ne_eq] at hc23
        refine c_skip ?_
        refine q_then ?_
        refine c_seq ?_
        refine c_held hmix [box B18 [.int .i64 0, .int .i64 0, .slice none 0 0] 59, box B17 [.int .i64 0, .int .i64 0, .slice none 0 0] 59, box B16 [.int .i64 ((Clock.clear c).room), .int .i64 ((Clock.clear c).hand), .slice a14 ((Clock.clear c).frames).length c15] 59, own tFrame S12 a14 c15 ((Clock.clear c).frames), box B11 [.int .i64 (((Clock.run c l).1).room), .int .i64 (((Clock.run c l).1).hand), .slice a9 (((Clock.run c l).1).frames).length c10] 59, own tFrame S7 a9 c10 (((Clock.run c l).1).frames), box B6 [.int .i64 (((Clock.access c key).1).room), .int .i64 (((Clock.access c key).1).hand), .slice a4 (((Clock.access c key).1).frames).length c5] 59, own tFrame S2 a4 c5 (((Clock.access c key).1).frames), box B1 [.int .i64 c.room, .int .i64 c.hand, .slice ac_0 c.frames.length cc_0] 59, base w0] rfl rfl ?_
        refine h_take (i := 0) (ls := #[true, false, false, false, false, false, false, false, false]) rfl (by kernel_rfl) (by kernel_rfl) (by kernel_rfl) (fun _ _ _ h => h) (p_fieldAddr (B := B1) (j := 0) (j' := 0) rfl fo59_0 rfl) rfl rfl rfl (fun _ hw => HeapIs.drop hw (List.Sublist.cons _ (List.Sublist.cons_cons _ (List.Sublist.cons_cons _ (List.Sublist.cons_cons _ (List.Sublist.cons_cons _ (List.Sublist.cons_cons _ (List.Sublist.cons_cons _ (List.Sublist.cons_cons _ (List.Sublist.cons_cons _ (List.Sublist.cons_cons _ (List.Sublist.cons_cons _ (List.Sublist.slnil))))))))))))) rfl ?_
        refine h_take (i := 1) (ls := #[true, true, false, false, false, false, false, false, false]) rfl (by kernel_rfl) (by kernel_rfl) (by kernel_rfl) (fun _ _ _ h => h) (p_load (i := 8) (v := .int .i64 c.room) rfl rfl sh3 rfl) rfl rfl rfl (fun _ hw => HeapIs.drop hw (List.Sublist.cons _ (List.Sublist.cons_cons _ (List.Sublist.cons_cons _ (List.Sublist.cons_cons _ (List.Sublist.cons_cons _ (List.Sublist.cons_cons _ (List.Sublist.cons_cons _ (List.Sublist.cons_cons _ (List.Sublist.cons_cons _ (List.Sublist.cons_cons _ (List.Sublist.cons_cons _ (List.Sublist.slnil))))))))))))) rfl ?_
        refine h_take (i := 2) (ls := #[true, true, true, false, false, false, false, false, false]) rfl (by kernel_rfl) (by kernel_rfl) (by kernel_rfl) (fun _ _ _ h => h) (p_fieldAddr (B := B1) (j := 0) (j' := 1) rfl fo59_1 rfl) rfl rfl rfl (fun _ hw => HeapIs.drop hw (List.Sublist.cons _ (List.Sublist.cons_cons _ (List.Sublist.cons_cons _ (List.Sublist.cons_cons _ (List.Sublist.cons_cons _ (List.Sublist.cons_cons _ (List.Sublist.cons_cons _ (List.Sublist.cons_cons _ (List.Sublist.cons_cons _ (List.Sublist.cons_cons _ (List.Sublist.cons_cons _ (List.Sublist.slnil))))))))))))) rfl ?_
        refine h_take (i := 3) (ls := #[true, true, true, true, false, false, false, false, false]) rfl (by kernel_rfl) (by kernel_rfl) (by kernel_rfl) (fun _ _ _ h => h) (p_load (i := 8) (v := .int .i64 c.hand) rfl rfl sh3 rfl) rfl rfl rfl (fun _ hw => HeapIs.drop hw (List.Sublist.cons _ (List.Sublist.cons_cons _ (List.Sublist.cons_cons _ (List.Sublist.cons_cons _ (List.Sublist.cons_cons _ (List.Sublist.cons_cons _ (List.Sublist.cons_cons _ (List.Sublist.cons_cons _ (List.Sublist.cons_cons _ (List.Sublist.cons_cons _ (List.Sublist.cons_cons _ (List.Sublist.slnil))))))))))))) rfl ?_
        refine h_take (i := 4) (ls := #[true, true, true, true, true, false, false, false, false]) rfl (by kernel_rfl) (by kernel_rfl) (by kernel_rfl) (fun _ _ _ h => h) (p_fieldAddr (B := B1) (j := 0) (j' := 2) rfl fo59_2 rfl) rfl rfl rfl (fun _ hw => HeapIs.drop hw (List.Sublist.cons _ (List.Sublist.cons_cons _ (List.Sublist.cons_cons _ (List.Sublist.cons_cons _ (List.Sublist.cons_cons _ (List.Sublist.cons_cons _ (List.Sublist.cons_cons _ (List.Sublist.cons_cons _ (List.Sublist.cons_cons _ (List.Sublist.cons_cons _ (List.Sublist.cons_cons _ (List.Sublist.slnil))))))))))))) rfl ?_
        refine h_take (i := 5) (ls := #[true, true, true, true, true, true, false, false, false]) rfl (by kernel_rfl) (by kernel_rfl) (by kernel_rfl) (fun _ _ _ h => h) (p_load (i := 8) (v := .slice ac_0 c.frames.length cc_0) rfl rfl sh57 rfl) rfl rfl rfl (fun _ hw => HeapIs.drop hw (List.Sublist.cons _ (List.Sublist.cons_cons _ (List.Sublist.cons_cons _ (List.Sublist.cons_cons _ (List.Sublist.cons_cons _ (List.Sublist.cons_cons _ (List.Sublist.cons_cons _ (List.Sublist.cons_cons _ (List.Sublist.cons_cons _ (List.Sublist.cons_cons _ (List.Sublist.cons_cons _ (List.Sublist.slnil))))))))))))) rfl ?_
        refine h_one (i := 6) (ls := #[true, true, true, true, true, true, true, false, false]) (by kernel_rfl) rfl rfl ?_
        refine o_callM rfl (framesCopy_ok c.frames ac_0 cc_0 (by first | assumption | omega)) hf43 (fun w hw => (rd_base (i := 10) rfl hc_0) w hw) rfl (fun _ _ _ _ ha hA => SlO.agree ha hA) ?_
        rintro ⟨a40_6, c40_6⟩ S40_6
        refine o_nil ?_
        refine h_next (fun _ hw => HeapIs.drop hw (List.Sublist.cons _ (List.Sublist.cons _ (List.Sublist.cons_cons _ (List.Sublist.cons_cons _ (List.Sublist.cons_cons _ (List.Sublist.cons_cons _ (List.Sublist.cons_cons _ (List.Sublist.cons_cons _ (List.Sublist.cons_cons _ (List.Sublist.cons_cons _ (List.Sublist.cons_cons _ (List.Sublist.cons_cons _ (List.Sublist.slnil)))))))))))))) ?_
        refine h_take (i := 7) (ls := #[true, true, true, true, true, true, true, true, false]) rfl (by kernel_rfl) (by kernel_rfl) (by kernel_rfl) (fun _ _ _ h => h) (p_build (cells := [.int .i64 c.room, .int .i64 c.hand, .slice a40_6 c.frames.length c40_6]) fp59 ze59 rfl rfl) rfl rfl rfl (fun _ hw => HeapIs.drop hw (List.Sublist.cons _ (List.Sublist.cons _ (List.Sublist.cons_cons _ (List.Sublist.cons_cons _ (List.Sublist.cons_cons _ (List.Sublist.cons_cons _ (List.Sublist.cons_cons _ (List.Sublist.cons_cons _ (List.Sublist.cons_cons _ (List.Sublist.cons_cons _ (List.Sublist.cons_cons _ (List.Sublist.cons_cons _ (List.Sublist.slnil)))))))))))))) rfl ?_
        refine h_one (i := 8) (ls := #[true, true, true, true, true, true, true, true, true]) (by kernel_rfl) rfl rfl ?_
        refine o_storeN (i := 1) (vs := [.int .i64 c.room, .int .i64 c.hand, .slice a40_6 c.frames.length c40_6]) (cs' := [.int .i64 c.room, .int .i64 c.hand, .slice a40_6 c.frames.length c40_6]) rfl rfl rfl sz59 rfl rfl rfl rfl ?_
        refine o_nil ?_
        refine h_next (fun _ hw => HeapIs.drop hw (List.Sublist.cons _ (List.Sublist.cons _ (List.Sublist.cons_cons _ (List.Sublist.cons_cons _ (List.Sublist.cons_cons _ (List.Sublist.cons_cons _ (List.Sublist.cons_cons _ (List.Sublist.cons_cons _ (List.Sublist.cons_cons _ (List.Sublist.cons_cons _ (List.Sublist.cons_cons _ (List.Sublist.cons_cons _ (List.Sublist.slnil)))))))))))))) ?_
        refine h_done (by kernel_rfl) ?_
        refine q_then ?_
        refine c_seq ?_
        refine c_region ?_
        refine o_pure (p_assign (v := .int .i64 0) rfl) rfl rfl rfl ?_
        refine o_nil ?_
        refine q_then ?_
        refine c_block ?_
        refine c_loop (St := Nat × DClock × Option Addr × Nat × (Nat → Prop))
          (fun ⟨i, tc, atc_0, ctc_0, Stc_0⟩ => [(3, .pointer (some ⟨B1, 0, none⟩)), (7, .pointer (some ⟨B6, 0, none⟩)), (8, .bool ((Clock.access c key).2.1)), (9, .int .i64 ((Clock.access c key).2.2)), (10, .int .i64 (Clock.accessErr c key)), (11, .pointer (some ⟨B11, 0, none⟩)), (12, .int .i64 ((Clock.run c l).2)), (13, .int .i64 (Clock.runErr c l)), (14, .pointer (some ⟨B16, 0, none⟩)), (15, .int .i64 (Clock.check c)), (16, .int .i64 (Clock.check c)), (17, .int .i64 3), (18, .int .i64 (Lru.trace l)), (19, .pointer (some ⟨B17, 0, none⟩)), (20, .pointer (some ⟨B18, 0, none⟩)), (21, .pointer (some ⟨B19, 0, none⟩)), (22, .bool false), (23, .int .i64 0), (24, .int .i64 0), (25, .int .i64 (i : Int))])
          (fun ⟨i, tc, atc_0, ctc_0, Stc_0⟩ => [own tFrame Stc_0 atc_0 ctc_0 tc.frames, box B19 [.int .i64 tc.room, .int .i64 tc.hand, .slice atc_0 tc.frames.length ctc_0] 59, box B18 [.int .i64 0, .int .i64 0, .slice none 0 0] 59, box B17 [.int .i64 0, .int .i64 0, .slice none 0 0] 59, box B16 [.int .i64 ((Clock.clear c).room), .int .i64 ((Clock.clear c).hand), .slice a14 ((Clock.clear c).frames).length c15] 59, own tFrame S12 a14 c15 ((Clock.clear c).frames), box B11 [.int .i64 (((Clock.run c l).1).room), .int .i64 (((Clock.run c l).1).hand), .slice a9 (((Clock.run c l).1).frames).length c10] 59, own tFrame S7 a9 c10 (((Clock.run c l).1).frames), box B6 [.int .i64 (((Clock.access c key).1).room), .int .i64 (((Clock.access c key).1).hand), .slice a4 (((Clock.access c key).1).frames).length c5] 59, own tFrame S2 a4 c5 (((Clock.access c key).1).frames), box B1 [.int .i64 c.room, .int .i64 c.hand, .slice ac_0 c.frames.length cc_0] 59, base w0])
          (fun ⟨i, tc, atc_0, ctc_0, Stc_0⟩ => tc.room = c.room ∧ tc.hand = c.hand ∧ Clock.UInv c.frames tc.frames i)
          (fun ⟨i, tc, atc_0, ctc_0, Stc_0⟩ => c.frames.length - i)
          (0, c, a40_6, c40_6, S40_6) ?_ (Sub.cons rfl (Sub.cons rfl (Sub.cons rfl (Sub.cons rfl (Sub.cons rfl (Sub.cons rfl (Sub.cons rfl (Sub.cons rfl (Sub.cons rfl (Sub.cons rfl (Sub.cons rfl (Sub.cons rfl (Sub.cons rfl (Sub.cons rfl (Sub.cons rfl (Sub.cons rfl (Sub.cons rfl (Sub.cons rfl (Sub.cons rfl (Sub.cons rfl (Sub.nil _))))))))))))))))))))) (fun _ hw => hw) ?_
        · exact ⟨rfl, rfl, Clock.UInv.start _⟩
        rintro ⟨i, tc, atc_0, ctc_0, Stc_0⟩ hI K hK41
        have hul := hI.2.2.len
        show SC Try.prog 147 w0 _ _ [(3, .pointer (some ⟨B1, 0, none⟩)), (7, .pointer (some ⟨B6, 0, none⟩)), (8, .bool ((Clock.access c key).2.1)), (9, .int .i64 ((Clock.access c key).2.2)), (10, .int .i64 (Clock.accessErr c key)), (11, .pointer (some ⟨B11, 0, none⟩)), (12, .int .i64 ((Clock.run c l).2)), (13, .int .i64 (Clock.runErr c l)), (14, .pointer (some ⟨B16, 0, none⟩)), (15, .int .i64 (Clock.check c)), (16, .int .i64 (Clock.check c)), (17, .int .i64 3), (18, .int .i64 (Lru.trace l)), (19, .pointer (some ⟨B17, 0, none⟩)), (20, .pointer (some ⟨B18, 0, none⟩)), (21, .pointer (some ⟨B19, 0, none⟩)), (22, .bool false), (23, .int .i64 0), (24, .int .i64 0), (25, .int .i64 (i : Int))] [own tFrame Stc_0 atc_0 ctc_0 tc.frames, box B19 [.int .i64 tc.room, .int .i64 tc.hand, .slice atc_0 tc.frames.length ctc_0] 59, box B18 [.int .i64 0, .int .i64 0, .slice none 0 0] 59, box B17 [.int .i64 0, .int .i64 0, .slice none 0 0] 59, box B16 [.int .i64 ((Clock.clear c).room), .int .i64 ((Clock.clear c).hand), .slice a14 ((Clock.clear c).frames).length c15] 59, own tFrame S12 a14 c15 ((Clock.clear c).frames), box B11 [.int .i64 (((Clock.run c l).1).room), .int .i64 (((Clock.run c l).1).hand), .slice a9 (((Clock.run c l).1).frames).length c10] 59, own tFrame S7 a9 c10 (((Clock.run c l).1).frames), box B6 [.int .i64 (((Clock.access c key).1).room), .int .i64 (((Clock.access c key).1).hand), .slice a4 (((Clock.access c key).1).frames).length c5] 59, own tFrame S2 a4 c5 (((Clock.access c key).1).frames), box B1 [.int .i64 c.room, .int .i64 c.hand, .slice ac_0 c.frames.length cc_0] 59, base w0]
        refine c_seq ?_
        refine c_seq ?_
        refine c_region ?_
        refine o_pure (p_move (v := .int .i64 (i : Int)) rfl) rfl rfl rfl ?_
        refine o_pure (p_fieldAddr (B := B19) (j := 0) (j' := 2) rfl fo59_2 rfl) rfl rfl rfl ?_
        refine o_pure (p_load (i := 1) (v := .slice atc_0 tc.frames.length ctc_0) rfl rfl sh57 rfl) rfl rfl rfl ?_
        refine o_pure (p_len_slice (len := tc.frames.length) rfl rfl Try.underlying57) rfl rfl rfl ?_
        refine o_pure (p_lt (p := (i : Int)) (q := (tc.frames.length : Int)) rfl rfl) rfl rfl rfl ?_
        refine o_nil ?_
        refine q_then ?_
        refine c_cond (b := decide ((i : Int) < (tc.frames.length : Int))) rfl (fun hc42 => ?_) (fun hc42 => ?_)
        · simp only [decide_eq_true_eq] at hc42
          refine c_skip ?_
          refine q_then ?_
          refine c_seq ?_
          refine c_block ?_
          refine c_region ?_
          refine o_pure (p_fieldAddr (B := B19) (j := 0) (j' := 2) rfl fo59_2 rfl) rfl rfl rfl ?_
          refine o_pure (p_load (i := 1) (v := .slice atc_0 tc.frames.length ctc_0) rfl rfl sh57 rfl) rfl rfl rfl ?_
          refine o_pure (p_move (v := .int .i64 (i : Int)) rfl) rfl rfl rfl ?_
          refine o_pure (p_indexAddr (L := tc.frames) (T := tFrame) (i := (i : Int)) rfl rfl (rd_own (i := 0) rfl) Try.underlying57 sz73 (by omega) (by omega)) rfl rfl rfl ?_
          refine o_pure (p_fieldAddrE rfl fo73_1) rfl rfl rfl ?_
          refine o_storeF (j := 1) (i := 0) (T := tFrame) (idx := i) (v := .bool false) (vs := [.bool false]) (z := (⟨(tc.frames[i]).key, false⟩ : DFrame)) (F' := [(3, .pointer (some ⟨B1, 0, none⟩)), (7, .pointer (some ⟨B6, 0, none⟩)), (8, .bool ((Clock.access c key).2.1)), (9, .int .i64 ((Clock.access c key).2.2)), (10, .int .i64 (Clock.accessErr c key)), (11, .pointer (some ⟨B11, 0, none⟩)), (12, .int .i64 ((Clock.run c l).2)), (13, .int .i64 (Clock.runErr c l)), (14, .pointer (some ⟨B16, 0, none⟩)), (15, .int .i64 (Clock.check c)), (16, .int .i64 (Clock.check c)), (17, .int .i64 3), (18, .int .i64 (Lru.trace l)), (19, .pointer (some ⟨B17, 0, none⟩)), (20, .pointer (some ⟨B18, 0, none⟩)), (21, .pointer (some ⟨B19, 0, none⟩)), (22, .bool false), (23, .int .i64 0), (24, .int .i64 0), (25, .int .i64 (i : Int))]) rfl rfl rfl rfl (by first | assumption | omega | (simp only [List.length_set]; omega)) sz4 rfl rfl rfl rfl (Sub.cons rfl (Sub.cons rfl (Sub.cons rfl (Sub.cons rfl (Sub.cons rfl (Sub.cons rfl (Sub.cons rfl (Sub.cons rfl (Sub.cons rfl (Sub.cons rfl (Sub.cons rfl (Sub.cons rfl (Sub.cons rfl (Sub.cons rfl (Sub.cons rfl (Sub.cons rfl (Sub.cons rfl (Sub.cons rfl (Sub.cons rfl (Sub.cons rfl (Sub.nil _))))))))))))))))))))) ?_
          refine o_asH (H := [own tFrame Stc_0 atc_0 ctc_0 (tc.frames.set i (⟨(tc.frames[i]).key, false⟩ : DFrame)), box B19 [.int .i64 tc.room, .int .i64 tc.hand, .slice atc_0 tc.frames.length ctc_0] 59, box B18 [.int .i64 0, .int .i64 0, .slice none 0 0] 59, box B17 [.int .i64 0, .int .i64 0, .slice none 0 0] 59, box B16 [.int .i64 ((Clock.clear c).room), .int .i64 ((Clock.clear c).hand), .slice a14 ((Clock.clear c).frames).length c15] 59, own tFrame S12 a14 c15 ((Clock.clear c).frames), box B11 [.int .i64 (((Clock.run c l).1).room), .int .i64 (((Clock.run c l).1).hand), .slice a9 (((Clock.run c l).1).frames).length c10] 59, own tFrame S7 a9 c10 (((Clock.run c l).1).frames), box B6 [.int .i64 (((Clock.access c key).1).room), .int .i64 (((Clock.access c key).1).hand), .slice a4 (((Clock.access c key).1).frames).length c5] 59, own tFrame S2 a4 c5 (((Clock.access c key).1).frames), box B1 [.int .i64 c.room, .int .i64 c.hand, .slice ac_0 c.frames.length cc_0] 59, base w0]) (H' := [own tFrame Stc_0 atc_0 ctc_0 (tc.frames.set i (⟨(tc.frames[i]).key, false⟩ : DFrame)), box B19 [.int .i64 tc.room, .int .i64 tc.hand, .slice atc_0 (tc.frames.set i (⟨(tc.frames[i]).key, false⟩ : DFrame)).length ctc_0] 59, box B18 [.int .i64 0, .int .i64 0, .slice none 0 0] 59, box B17 [.int .i64 0, .int .i64 0, .slice none 0 0] 59, box B16 [.int .i64 ((Clock.clear c).room), .int .i64 ((Clock.clear c).hand), .slice a14 ((Clock.clear c).frames).length c15] 59, own tFrame S12 a14 c15 ((Clock.clear c).frames), box B11 [.int .i64 (((Clock.run c l).1).room), .int .i64 (((Clock.run c l).1).hand), .slice a9 (((Clock.run c l).1).frames).length c10] 59, own tFrame S7 a9 c10 (((Clock.run c l).1).frames), box B6 [.int .i64 (((Clock.access c key).1).room), .int .i64 (((Clock.access c key).1).hand), .slice a4 (((Clock.access c key).1).frames).length c5] 59, own tFrame S2 a4 c5 (((Clock.access c key).1).frames), box B1 [.int .i64 c.room, .int .i64 c.hand, .slice ac_0 c.frames.length cc_0] 59, base w0]) (by simp only [List.length_set]) ?_
          refine o_nil ?_
          refine q_block_normal (q_then ?_)
          refine c_region ?_
          refine o_pure (p_move (v := .int .i64 (i : Int)) rfl) rfl rfl rfl ?_
          refine o_pure (p_addb (p := (i : Int)) (q := 1) rfl rfl (by omega)) rfl rfl rfl ?_
          refine o_pure (p_assign (v := .int .i64 ((i : Int) + 1)) rfl) rfl rfl rfl ?_
          refine o_nil ?_
          refine q_round hK41 (i + 1, (⟨tc.room, tc.hand, (tc.frames.set i (⟨(tc.frames[i]).key, false⟩ : DFrame))⟩ : DClock), atc_0, ctc_0, Stc_0) ?_ ?_ ?_ ?_
          · clear hK41
            exact ⟨hI.1, hI.2.1, hI.2.2.next (by omega) (by omega)⟩
          · (try dsimp only); omega
          · exact Sub.cons rfl (Sub.cons rfl (Sub.cons rfl (Sub.cons rfl (Sub.cons rfl (Sub.cons rfl (Sub.cons rfl (Sub.cons rfl (Sub.cons rfl (Sub.cons rfl (Sub.cons rfl (Sub.cons rfl (Sub.cons rfl (Sub.cons rfl (Sub.cons rfl (Sub.cons rfl (Sub.cons rfl (Sub.cons rfl (Sub.cons rfl (Sub.cons rfl (Sub.nil _))))))))))))))))))))
          · exact fun _ hw => HeapIs.pick hw [0, 1, 2, 3, 4, 5, 6, 7, 8, 9, 10, 11] (by decide) rfl
        · simp only [decide_eq_false_iff_not, Int.not_lt] at hc42
          refine c_exit ?_
          refine q_then_exit (q_then_exit (q_block_exit (q_then ?_)))
          refine c_seq ?_
          refine c_region ?_
          refine o_call0 (v := .bool true) rfl (clockBegun_ok ) hf44 (fun _ _ => trivial) rfl ?_
          refine o_pure (p_move (v := .bool true) rfl) rfl rfl rfl ?_
          refine o_unguard 96 rfl rfl ?_
          refine o_pure (p_load_agg (i := 10) (vs := [.int .i64 c.room, .int .i64 c.hand, .slice ac_0 c.frames.length cc_0]) rfl rfl sh59 rfl rfl) rfl rfl rfl ?_
          refine o_unguard 96 rfl rfl ?_
          refine o_call0 (v := .int .i64 (Clock.check c)) rfl (ccheck_ok c ac_0 cc_0) hf45 (fun w hw => (rd_base (i := 11) rfl hc_0) w hw) rfl ?_
          refine o_unguard 96 rfl rfl ?_
          refine o_pure (p_move (v := .int .i64 (Clock.check c)) rfl) rfl rfl rfl ?_
          refine o_unguard 96 rfl rfl ?_
          refine o_pure (p_eq (p := (Clock.check c)) (q := (Clock.check c)) rfl rfl) rfl rfl rfl ?_
          refine o_pure (p_pick_true (u := .bool ((Clock.check c) == (Clock.check c))) rfl rfl) rfl rfl rfl ?_
          refine o_pure (p_move (v := .bool ((Clock.check c) == (Clock.check c))) rfl) rfl rfl rfl ?_
          refine o_and (p := 106) 4 (decide (((Clock.access c key).1) = (⟨0, 0, []⟩ : DClock))) ?_ ?_ ?_
          · intro hb43 hk
            simp only [beq_iff_eq] at hb43
            refine o_unguard 102 rfl rfl ?_
            refine o_pure (p_load_agg (i := 8) (vs := [.int .i64 (((Clock.access c key).1).room), .int .i64 (((Clock.access c key).1).hand), .slice a4 (((Clock.access c key).1).frames).length c5]) rfl rfl sh59 rfl rfl) rfl rfl rfl ?_
            refine o_unguard 102 rfl rfl ?_
            refine o_pure (p_load_agg (i := 3) (vs := [.int .i64 0, .int .i64 0, .slice none 0 0]) rfl rfl sh59 rfl rfl) rfl rfl rfl ?_
            refine o_unguard 102 rfl rfl ?_
            refine o_call0 (v := .bool (decide (((Clock.access c key).1) = (⟨0, 0, []⟩ : DClock)))) rfl (sameClock_ok ((Clock.access c key).1) a4 c5 (⟨0, 0, []⟩ : DClock) none 0) hf46 (fun w hw => ⟨(rd_own (i := 9) rfl) w hw, rd_nil w hw⟩) rfl ?_
            refine o_pure (p_pick_true (u := .bool (decide (((Clock.access c key).1) = (⟨0, 0, []⟩ : DClock)))) rfl rfl) rfl rfl rfl ?_
            exact o_sub (Sub.cons rfl (Sub.skip rfl (Sub.skip rfl (Sub.skip rfl (Sub.skip rfl (Sub.skip rfl (Sub.refl _))))))) hk
          · intro hb43 hk
            refine o_guard_no rfl 102 rfl rfl rfl rfl rfl ?_
            refine o_guard_no rfl 102 rfl rfl rfl rfl rfl ?_
            refine o_guard_no rfl 102 rfl rfl rfl rfl rfl ?_
            refine o_pure (p_pick_false (v := .bool false) rfl rfl) rfl rfl rfl ?_
            exact o_sub (Sub.cons rfl (Sub.skip rfl (Sub.skip rfl (Sub.skip rfl (Sub.skip rfl (Sub.skip rfl (Sub.refl _))))))) hk
          refine o_pure (p_move (v := .bool (((Clock.check c) == (Clock.check c)) && (decide (((Clock.access c key).1) = (⟨0, 0, []⟩ : DClock))))) rfl) rfl rfl rfl ?_
          refine o_and (p := 111) 4 (((Clock.access c key).2.1) == false) ?_ ?_ ?_
          · intro hb44 hk
            simp only [Bool.and_eq_true, beq_iff_eq, decide_eq_true_eq] at hb44
            refine o_unguard 107 rfl rfl ?_
            refine o_pure (p_move (v := .bool ((Clock.access c key).2.1)) rfl) rfl rfl rfl ?_
            refine o_unguard 107 rfl rfl ?_
            refine o_pure (p_move (v := .bool false) rfl) rfl rfl rfl ?_
            refine o_unguard 107 rfl rfl ?_
            refine o_pure (p_eqBool (b := ((Clock.access c key).2.1)) (c := false) rfl rfl Try.underlying4) rfl rfl rfl ?_
            refine o_pure (p_pick_true (u := .bool (((Clock.access c key).2.1) == false)) rfl rfl) rfl rfl rfl ?_
            exact o_sub (Sub.cons rfl (Sub.skip rfl (Sub.skip rfl (Sub.skip rfl (Sub.skip rfl (Sub.skip rfl (Sub.refl _))))))) hk
          · intro hb44 hk
            refine o_guard_no rfl 107 rfl rfl rfl rfl rfl ?_
            refine o_guard_no rfl 107 rfl rfl rfl rfl rfl ?_
            refine o_guard_no rfl 107 rfl rfl rfl rfl rfl ?_
            refine o_pure (p_pick_false (v := .bool false) rfl rfl) rfl rfl rfl ?_
            exact o_sub (Sub.cons rfl (Sub.skip rfl (Sub.skip rfl (Sub.skip rfl (Sub.skip rfl (Sub.skip rfl (Sub.refl _))))))) hk
          refine o_pure (p_move (v := .bool ((((Clock.check c) == (Clock.check c)) && (decide (((Clock.access c key).1) = (⟨0, 0, []⟩ : DClock)))) && (((Clock.access c key).2.1) == false))) rfl) rfl rfl rfl ?_
          refine o_and (p := 116) 4 (((Clock.access c key).2.2) == 0) ?_ ?_ ?_
          · intro hb45 hk
            simp only [Bool.and_eq_true, beq_iff_eq, decide_eq_true_eq] at hb45
            refine o_unguard 112 rfl rfl ?_
            refine o_pure (p_move (v := .int .i64 ((Clock.access c key).2.2)) rfl) rfl rfl rfl ?_
            refine o_unguard 112 rfl rfl ?_
            refine o_pure (p_move (v := .int .i64 0) rfl) rfl rfl rfl ?_
            refine o_unguard 112 rfl rfl ?_
            refine o_pure (p_eq (p := ((Clock.access c key).2.2)) (q := 0) rfl rfl) rfl rfl rfl ?_
            refine o_pure (p_pick_true (u := .bool (((Clock.access c key).2.2) == 0)) rfl rfl) rfl rfl rfl ?_
            exact o_sub (Sub.cons rfl (Sub.skip rfl (Sub.skip rfl (Sub.skip rfl (Sub.skip rfl (Sub.skip rfl (Sub.refl _))))))) hk
          · intro hb45 hk
            refine o_guard_no rfl 112 rfl rfl rfl rfl rfl ?_
            refine o_guard_no rfl 112 rfl rfl rfl rfl rfl ?_
            refine o_guard_no rfl 112 rfl rfl rfl rfl rfl ?_
            refine o_pure (p_pick_false (v := .bool false) rfl rfl) rfl rfl rfl ?_
            exact o_sub (Sub.cons rfl (Sub.skip rfl (Sub.skip rfl (Sub.skip rfl (Sub.skip rfl (Sub.skip rfl (Sub.refl _))))))) hk
          refine o_pure (p_move (v := .bool (((((Clock.check c) == (Clock.check c)) && (decide (((Clock.access c key).1) = (⟨0, 0, []⟩ : DClock)))) && (((Clock.access c key).2.1) == false)) && (((Clock.access c key).2.2) == 0))) rfl) rfl rfl rfl ?_
          refine o_and (p := 121) 4 ((Clock.accessErr c key) == 3) ?_ ?_ ?_
          · intro hb46 hk
            simp only [Bool.and_eq_true, beq_iff_eq, decide_eq_true_eq] at hb46
            refine o_unguard 117 rfl rfl ?_
            refine o_pure (p_move (v := .int .i64 (Clock.accessErr c key)) rfl) rfl rfl rfl ?_
            refine o_unguard 117 rfl rfl ?_
            refine o_pure (p_move (v := .int .i64 3) rfl) rfl rfl rfl ?_
            refine o_unguard 117 rfl rfl ?_
            refine o_pure (p_eq (p := (Clock.accessErr c key)) (q := 3) rfl rfl) rfl rfl rfl ?_
            refine o_pure (p_pick_true (u := .bool ((Clock.accessErr c key) == 3)) rfl rfl) rfl rfl rfl ?_
            exact o_sub (Sub.cons rfl (Sub.skip rfl (Sub.skip rfl (Sub.skip rfl (Sub.skip rfl (Sub.skip rfl (Sub.refl _))))))) hk
          · intro hb46 hk
            refine o_guard_no rfl 117 rfl rfl rfl rfl rfl ?_
            refine o_guard_no rfl 117 rfl rfl rfl rfl rfl ?_
            refine o_guard_no rfl 117 rfl rfl rfl rfl rfl ?_
            refine o_pure (p_pick_false (v := .bool false) rfl rfl) rfl rfl rfl ?_
            exact o_sub (Sub.cons rfl (Sub.skip rfl (Sub.skip rfl (Sub.skip rfl (Sub.skip rfl (Sub.skip rfl (Sub.refl _))))))) hk
          refine o_pure (p_move (v := .bool ((((((Clock.check c) == (Clock.check c)) && (decide (((Clock.access c key).1) = (⟨0, 0, []⟩ : DClock)))) && (((Clock.access c key).2.1) == false)) && (((Clock.access c key).2.2) == 0)) && ((Clock.accessErr c key) == 3))) rfl) rfl rfl rfl ?_
          refine o_and (p := 126) 4 (decide (((Clock.run c l).1) = (⟨0, 0, []⟩ : DClock))) ?_ ?_ ?_
          · intro hb47 hk
            simp only [Bool.and_eq_true, beq_iff_eq, decide_eq_true_eq] at hb47
            refine o_unguard 122 rfl rfl ?_
            refine o_pure (p_load_agg (i := 6) (vs := [.int .i64 (((Clock.run c l).1).room), .int .i64 (((Clock.run c l).1).hand), .slice a9 (((Clock.run c l).1).frames).length c10]) rfl rfl sh59 rfl rfl) rfl rfl rfl ?_
            refine o_unguard 122 rfl rfl ?_
            refine o_pure (p_load_agg (i := 2) (vs := [.int .i64 0, .int .i64 0, .slice none 0 0]) rfl rfl sh59 rfl rfl) rfl rfl rfl ?_
            refine o_unguard 122 rfl rfl ?_
            refine o_call0 (v := .bool (decide (((Clock.run c l).1) = (⟨0, 0, []⟩ : DClock)))) rfl (sameClock_ok ((Clock.run c l).1) a9 c10 (⟨0, 0, []⟩ : DClock) none 0) hf46 (fun w hw => ⟨(rd_own (i := 7) rfl) w hw, rd_nil w hw⟩) rfl ?_
            refine o_pure (p_pick_true (u := .bool (decide (((Clock.run c l).1) = (⟨0, 0, []⟩ : DClock)))) rfl rfl) rfl rfl rfl ?_
            exact o_sub (Sub.cons rfl (Sub.skip rfl (Sub.skip rfl (Sub.skip rfl (Sub.skip rfl (Sub.skip rfl (Sub.refl _))))))) hk
          · intro hb47 hk
            refine o_guard_no rfl 122 rfl rfl rfl rfl rfl ?_
            refine o_guard_no rfl 122 rfl rfl rfl rfl rfl ?_
            refine o_guard_no rfl 122 rfl rfl rfl rfl rfl ?_
            refine o_pure (p_pick_false (v := .bool false) rfl rfl) rfl rfl rfl ?_
            exact o_sub (Sub.cons rfl (Sub.skip rfl (Sub.skip rfl (Sub.skip rfl (Sub.skip rfl (Sub.skip rfl (Sub.refl _))))))) hk
          refine o_pure (p_move (v := .bool (((((((Clock.check c) == (Clock.check c)) && (decide (((Clock.access c key).1) = (⟨0, 0, []⟩ : DClock)))) && (((Clock.access c key).2.1) == false)) && (((Clock.access c key).2.2) == 0)) && ((Clock.accessErr c key) == 3)) && (decide (((Clock.run c l).1) = (⟨0, 0, []⟩ : DClock))))) rfl) rfl rfl rfl ?_
          refine o_and (p := 131) 4 (((Clock.run c l).2) == 0) ?_ ?_ ?_
          · intro hb48 hk
            simp only [Bool.and_eq_true, beq_iff_eq, decide_eq_true_eq] at hb48
            refine o_unguard 127 rfl rfl ?_
            refine o_pure (p_move (v := .int .i64 ((Clock.run c l).2)) rfl) rfl rfl rfl ?_
            refine o_unguard 127 rfl rfl ?_
            refine o_pure (p_move (v := .int .i64 0) rfl) rfl rfl rfl ?_
            refine o_unguard 127 rfl rfl ?_
            refine o_pure (p_eq (p := ((Clock.run c l).2)) (q := 0) rfl rfl) rfl rfl rfl ?_
            refine o_pure (p_pick_true (u := .bool (((Clock.run c l).2) == 0)) rfl rfl) rfl rfl rfl ?_
            exact o_sub (Sub.cons rfl (Sub.skip rfl (Sub.skip rfl (Sub.skip rfl (Sub.skip rfl (Sub.skip rfl (Sub.refl _))))))) hk
          · intro hb48 hk
            refine o_guard_no rfl 127 rfl rfl rfl rfl rfl ?_
            refine o_guard_no rfl 127 rfl rfl rfl rfl rfl ?_
            refine o_guard_no rfl 127 rfl rfl rfl rfl rfl ?_
            refine o_pure (p_pick_false (v := .bool false) rfl rfl) rfl rfl rfl ?_
            exact o_sub (Sub.cons rfl (Sub.skip rfl (Sub.skip rfl (Sub.skip rfl (Sub.skip rfl (Sub.skip rfl (Sub.refl _))))))) hk
          refine o_pure (p_move (v := .bool ((((((((Clock.check c) == (Clock.check c)) && (decide (((Clock.access c key).1) = (⟨0, 0, []⟩ : DClock)))) && (((Clock.access c key).2.1) == false)) && (((Clock.access c key).2.2) == 0)) && ((Clock.accessErr c key) == 3)) && (decide (((Clock.run c l).1) = (⟨0, 0, []⟩ : DClock)))) && (((Clock.run c l).2) == 0))) rfl) rfl rfl rfl ?_
          refine o_and (p := 136) 4 ((Clock.runErr c l) == (Lru.trace l)) ?_ ?_ ?_
          · intro hb49 hk
            simp only [Bool.and_eq_true, beq_iff_eq, decide_eq_true_eq] at hb49
            refine o_unguard 132 rfl rfl ?_
            refine o_pure (p_move (v := .int .i64 (Clock.runErr c l)) rfl) rfl rfl rfl ?_
            refine o_unguard 132 rfl rfl ?_
            refine o_pure (p_move (v := .int .i64 (Lru.trace l)) rfl) rfl rfl rfl ?_
            refine o_unguard 132 rfl rfl ?_
            refine o_pure (p_eq (p := (Clock.runErr c l)) (q := (Lru.trace l)) rfl rfl) rfl rfl rfl ?_
            refine o_pure (p_pick_true (u := .bool ((Clock.runErr c l) == (Lru.trace l))) rfl rfl) rfl rfl rfl ?_
            exact o_sub (Sub.cons rfl (Sub.skip rfl (Sub.skip rfl (Sub.skip rfl (Sub.skip rfl (Sub.skip rfl (Sub.refl _))))))) hk
          · intro hb49 hk
            refine o_guard_no rfl 132 rfl rfl rfl rfl rfl ?_
            refine o_guard_no rfl 132 rfl rfl rfl rfl rfl ?_
            refine o_guard_no rfl 132 rfl rfl rfl rfl rfl ?_
            refine o_pure (p_pick_false (v := .bool false) rfl rfl) rfl rfl rfl ?_
            exact o_sub (Sub.cons rfl (Sub.skip rfl (Sub.skip rfl (Sub.skip rfl (Sub.skip rfl (Sub.skip rfl (Sub.refl _))))))) hk
          refine o_pure (p_move (v := .bool (((((((((Clock.check c) == (Clock.check c)) && (decide (((Clock.access c key).1) = (⟨0, 0, []⟩ : DClock)))) && (((Clock.access c key).2.1) == false)) && (((Clock.access c key).2.2) == 0)) && ((Clock.accessErr c key) == 3)) && (decide (((Clock.run c l).1) = (⟨0, 0, []⟩ : DClock)))) && (((Clock.run c l).2) == 0)) && ((Clock.runErr c l) == (Lru.trace l)))) rfl) rfl rfl rfl ?_
          refine o_and (p := 141) 4 (decide ((Clock.clear c) = tc)) ?_ ?_ ?_
          · intro hb50 hk
            simp only [Bool.and_eq_true, beq_iff_eq, decide_eq_true_eq] at hb50
            refine o_unguard 137 rfl rfl ?_
            refine o_pure (p_load_agg (i := 4) (vs := [.int .i64 ((Clock.clear c).room), .int .i64 ((Clock.clear c).hand), .slice a14 ((Clock.clear c).frames).length c15]) rfl rfl sh59 rfl rfl) rfl rfl rfl ?_
            refine o_unguard 137 rfl rfl ?_
            refine o_pure (p_load_agg (i := 1) (vs := [.int .i64 tc.room, .int .i64 tc.hand, .slice atc_0 tc.frames.length ctc_0]) rfl rfl sh59 rfl rfl) rfl rfl rfl ?_
            refine o_unguard 137 rfl rfl ?_
            refine o_call0 (v := .bool (decide ((Clock.clear c) = tc))) rfl (sameClock_ok (Clock.clear c) a14 c15 tc atc_0 ctc_0) hf46 (fun w hw => ⟨(rd_own (i := 5) rfl) w hw, (rd_own (i := 0) rfl) w hw⟩) rfl ?_
            refine o_pure (p_pick_true (u := .bool (decide ((Clock.clear c) = tc))) rfl rfl) rfl rfl rfl ?_
            exact o_sub (Sub.cons rfl (Sub.skip rfl (Sub.skip rfl (Sub.skip rfl (Sub.skip rfl (Sub.skip rfl (Sub.refl _))))))) hk
          · intro hb50 hk
            refine o_guard_no rfl 137 rfl rfl rfl rfl rfl ?_
            refine o_guard_no rfl 137 rfl rfl rfl rfl rfl ?_
            refine o_guard_no rfl 137 rfl rfl rfl rfl rfl ?_
            refine o_pure (p_pick_false (v := .bool false) rfl rfl) rfl rfl rfl ?_
            exact o_sub (Sub.cons rfl (Sub.skip rfl (Sub.skip rfl (Sub.skip rfl (Sub.skip rfl (Sub.skip rfl (Sub.refl _))))))) hk
          refine o_pure (p_move (v := .bool ((((((((((Clock.check c) == (Clock.check c)) && (decide (((Clock.access c key).1) = (⟨0, 0, []⟩ : DClock)))) && (((Clock.access c key).2.1) == false)) && (((Clock.access c key).2.2) == 0)) && ((Clock.accessErr c key) == 3)) && (decide (((Clock.run c l).1) = (⟨0, 0, []⟩ : DClock)))) && (((Clock.run c l).2) == 0)) && ((Clock.runErr c l) == (Lru.trace l))) && (decide ((Clock.clear c) = tc)))) rfl) rfl rfl rfl ?_
          refine o_and (p := 146) 4 ((Clock.check c) == (Clock.check c)) ?_ ?_ ?_
          · intro hb51 hk
            simp only [Bool.and_eq_true, beq_iff_eq, decide_eq_true_eq] at hb51
            refine o_unguard 142 rfl rfl ?_
            refine o_pure (p_move (v := .int .i64 (Clock.check c)) rfl) rfl rfl rfl ?_
            refine o_unguard 142 rfl rfl ?_
            refine o_pure (p_move (v := .int .i64 (Clock.check c)) rfl) rfl rfl rfl ?_
            refine o_unguard 142 rfl rfl ?_
            refine o_pure (p_eq (p := (Clock.check c)) (q := (Clock.check c)) rfl rfl) rfl rfl rfl ?_
            refine o_pure (p_pick_true (u := .bool ((Clock.check c) == (Clock.check c))) rfl rfl) rfl rfl rfl ?_
            exact o_sub (Sub.cons rfl (Sub.skip rfl (Sub.skip rfl (Sub.skip rfl (Sub.skip rfl (Sub.skip rfl (Sub.refl _))))))) hk
          · intro hb51 hk
            refine o_guard_no rfl 142 rfl rfl rfl rfl rfl ?_
            refine o_guard_no rfl 142 rfl rfl rfl rfl rfl ?_
            refine o_guard_no rfl 142 rfl rfl rfl rfl rfl ?_
            refine o_pure (p_pick_false (v := .bool false) rfl rfl) rfl rfl rfl ?_
            exact o_sub (Sub.cons rfl (Sub.skip rfl (Sub.skip rfl (Sub.skip rfl (Sub.skip rfl (Sub.skip rfl (Sub.refl _))))))) hk
          refine o_pure (p_assign (v := .bool (((((((((((Clock.check c) == (Clock.check c)) && (decide (((Clock.access c key).1) = (⟨0, 0, []⟩ : DClock)))) && (((Clock.access c key).2.1) == false)) && (((Clock.access c key).2.2) == 0)) && ((Clock.accessErr c key) == 3)) && (decide (((Clock.run c l).1) = (⟨0, 0, []⟩ : DClock)))) && (((Clock.run c l).2) == 0)) && ((Clock.runErr c l) == (Lru.trace l))) && (decide ((Clock.clear c) = tc))) && ((Clock.check c) == (Clock.check c)))) rfl) rfl rfl rfl ?_
          refine o_nil ?_
          refine q_then ?_
          refine c_ret ?_
          have hr0 : ((((((((((((Clock.check c) == (Clock.check c)) && (decide (((Clock.access c key).1) = (⟨0, 0, []⟩ : DClock)))) && (((Clock.access c key).2.1) == false)) && (((Clock.access c key).2.2) == 0)) && ((Clock.accessErr c key) == 3)) && (decide (((Clock.run c l).1) = (⟨0, 0, []⟩ : DClock)))) && (((Clock.run c l).2) == 0)) && ((Clock.runErr c l) == (Lru.trace l))) && (decide ((Clock.clear c) = tc))) && ((Clock.check c) == (Clock.check c))) : Bool) = true := by
            rcases Clock.acc_cases c key with ⟨a0, a1, a2⟩ | ⟨a0, a3, a1, a2⟩ | ⟨a0, a3, a1, a2⟩ <;> rcases Clock.run_cases c l with ⟨b0, b1, b2⟩ | ⟨b0, b3, b1, b2⟩ | ⟨b0, b3, b1, b2⟩ <;> first | (exfalso; omega) | (rw [a1, a2, b1, b2]; first | (rw [Clock.clear_bad a0]; simp [Clock.zero]) | (rw [Clock.clear_ok a0, Clock.turn_eq hI (by omega)]; first | (simp [Clock.zero, a0]; done) | simp [Clock.zero, a0, b3]))
          refine q_end0 (v := .bool (((((((((((Clock.check c) == (Clock.check c)) && (decide (((Clock.access c key).1) = (⟨0, 0, []⟩ : DClock)))) && (((Clock.access c key).2.1) == false)) && (((Clock.access c key).2.2) == 0)) && ((Clock.accessErr c key) == 3)) && (decide (((Clock.run c l).1) = (⟨0, 0, []⟩ : DClock)))) && (((Clock.run c l).2) == 0)) && ((Clock.runErr c l) == (Lru.trace l))) && (decide ((Clock.clear c) = tc))) && ((Clock.check c) == (Clock.check c)))) (rt1 rfl (r_tmp rfl)) (i := 11) rfl ?_
          exact (by have hcc := congrArg (fun (y0 : Bool) => (.bool y0 : Value)) hr0; exact hcc)
    · simp only [Bool.or_eq_false_iff, decide_eq_false_iff_not, Int.not_lt] at hc22
      refine c_region ?_
      refine o_pure (p_load_agg (i := 9) (vs := [.int .i64 c.room, .int .i64 c.hand, .slice ac_0 c.frames.length cc_0]) rfl rfl sh59 rfl rfl) rfl rfl rfl ?_
      refine o_pure (p_move (v := .int .i64 key) rfl) rfl rfl rfl ?_
      refine o_callM rfl (clockTouch_ok c ac_0 cc_0 key (by first | assumption | exact hI.ok | omega)) hf41 (fun w hw => (rd_base (i := 10) rfl hc_0) w hw) rfl (fun _ _ _ _ ha hA => SlO.agree ha hA) ?_
      rintro ⟨a54, c55⟩ S52
      refine o_pure (p_move (v := .tuple #[.agg #[.int .i64 (((Clock.touch c key).1).room), .int .i64 (((Clock.touch c key).1).hand), .slice a54 (((Clock.touch c key).1).frames).length c55], .bool ((Clock.touch c key).2.1), .int .i64 ((Clock.touch c key).2.2)]) rfl) rfl rfl rfl ?_
      refine o_pure (p_extract (vs := [.agg #[.int .i64 (((Clock.touch c key).1).room), .int .i64 (((Clock.touch c key).1).hand), .slice a54 (((Clock.touch c key).1).frames).length c55], .bool ((Clock.touch c key).2.1), .int .i64 ((Clock.touch c key).2.2)]) (v := .agg #[.int .i64 (((Clock.touch c key).1).room), .int .i64 (((Clock.touch c key).1).hand), .slice a54 (((Clock.touch c key).1).frames).length c55]) rfl rfl) rfl rfl rfl ?_
      refine o_pure (p_extract (vs := [.agg #[.int .i64 (((Clock.touch c key).1).room), .int .i64 (((Clock.touch c key).1).hand), .slice a54 (((Clock.touch c key).1).frames).length c55], .bool ((Clock.touch c key).2.1), .int .i64 ((Clock.touch c key).2.2)]) (v := .bool ((Clock.touch c key).2.1)) rfl rfl) rfl rfl rfl ?_
      refine o_pure (p_extract (vs := [.agg #[.int .i64 (((Clock.touch c key).1).room), .int .i64 (((Clock.touch c key).1).hand), .slice a54 (((Clock.touch c key).1).frames).length c55], .bool ((Clock.touch c key).2.1), .int .i64 ((Clock.touch c key).2.2)]) (v := .int .i64 ((Clock.touch c key).2.2)) rfl rfl) rfl rfl rfl ?_
      refine o_storeN (i := 3) (vs := [.int .i64 (((Clock.touch c key).1).room), .int .i64 (((Clock.touch c key).1).hand), .slice a54 (((Clock.touch c key).1).frames).length c55]) (cs' := [.int .i64 (((Clock.touch c key).1).room), .int .i64 (((Clock.touch c key).1).hand), .slice a54 (((Clock.touch c key).1).frames).length c55]) rfl rfl rfl sz59 rfl rfl rfl rfl ?_
      refine o_pure (p_assign (v := .bool ((Clock.touch c key).2.1)) rfl) rfl rfl rfl ?_
      refine o_pure (p_assign (v := .int .i64 ((Clock.touch c key).2.2)) rfl) rfl rfl rfl ?_
      refine o_nil ?_
      refine q_then ?_
      refine c_seq ?_
      refine c_seq ?_
      refine c_region ?_
      refine o_pure (p_move (v := .slice al l.length cl) rfl) rfl rfl rfl ?_
      refine o_call0 (v := .int .i64 (Lru.trace l)) rfl (traceCheck_ok l al cl) hf18 (fun w hw => (rd_base (i := 11) rfl hl) w hw) rfl ?_
      refine o_pure (p_assign (v := .int .i64 (Lru.trace l)) rfl) rfl rfl rfl ?_
      refine o_nil ?_
      refine q_then ?_
      refine c_seq ?_
      refine c_region ?_
      refine o_pure (p_move (v := .int .i64 (Lru.trace l)) rfl) rfl rfl rfl ?_
      refine o_pure (p_eq (p := (Lru.trace l)) (q := 0) rfl rfl) rfl rfl rfl ?_
      refine o_nil ?_
      refine q_then ?_
      refine c_cond (b := ((Lru.trace l) == 0)) rfl (fun hc56 => ?_) (fun hc56 => ?_)
      · simp only [beq_iff_eq] at hc56
        refine c_region ?_
        refine o_pure (p_load_agg (i := 10) (vs := [.int .i64 c.room, .int .i64 c.hand, .slice ac_0 c.frames.length cc_0]) rfl rfl sh59 rfl rfl) rfl rfl rfl ?_
        refine o_pure (p_move (v := .slice al l.length cl) rfl) rfl rfl rfl ?_
        refine o_callM rfl (clockRun_ok c ac_0 cc_0 l al cl (by first | assumption | exact hI.ok | omega)) hf42 (fun w hw => ⟨(rd_base (i := 11) rfl hc_0) w hw, (rd_base (i := 11) rfl hl) w hw⟩) rfl (fun _ _ _ _ ha hA => hA.imp (fun h => SlR.agree ha h) id) ?_
        rintro ⟨a59, c60⟩ S57
        refine o_pure (p_move (v := .tuple #[.agg #[.int .i64 (((Clock.runGo c 0 l).1).room), .int .i64 (((Clock.runGo c 0 l).1).hand), .slice a59 (((Clock.runGo c 0 l).1).frames).length c60], .int .i64 ((Clock.runGo c 0 l).2)]) rfl) rfl rfl rfl ?_
        refine o_pure (p_extract (vs := [.agg #[.int .i64 (((Clock.runGo c 0 l).1).room), .int .i64 (((Clock.runGo c 0 l).1).hand), .slice a59 (((Clock.runGo c 0 l).1).frames).length c60], .int .i64 ((Clock.runGo c 0 l).2)]) (v := .agg #[.int .i64 (((Clock.runGo c 0 l).1).room), .int .i64 (((Clock.runGo c 0 l).1).hand), .slice a59 (((Clock.runGo c 0 l).1).frames).length c60]) rfl rfl) rfl rfl rfl ?_
        refine o_pure (p_extract (vs := [.agg #[.int .i64 (((Clock.runGo c 0 l).1).room), .int .i64 (((Clock.runGo c 0 l).1).hand), .slice a59 (((Clock.runGo c 0 l).1).frames).length c60], .int .i64 ((Clock.runGo c 0 l).2)]) (v := .int .i64 ((Clock.runGo c 0 l).2)) rfl rfl) rfl rfl rfl ?_
        refine o_storeN (i := 3) (vs := [.int .i64 (((Clock.runGo c 0 l).1).room), .int .i64 (((Clock.runGo c 0 l).1).hand), .slice a59 (((Clock.runGo c 0 l).1).frames).length c60]) (cs' := [.int .i64 (((Clock.runGo c 0 l).1).room), .int .i64 (((Clock.runGo c 0 l).1).hand), .slice a59 (((Clock.runGo c 0 l).1).frames).length c60]) rfl rfl rfl sz59 rfl rfl rfl rfl ?_
        refine o_pure (p_assign (v := .int .i64 ((Clock.runGo c 0 l).2)) rfl) rfl rfl rfl ?_
        refine o_nil ?_
        refine q_then ?_
        refine c_seq ?_
        refine c_held hmix [loose tFrame (a59 = ac_0 ∧ c60 = cc_0 ∧ (((Clock.runGo c 0 l).1).frames) = c.frames) S57 a59 c60 (((Clock.runGo c 0 l).1).frames), own tFrame S52 a54 c55 (((Clock.touch c key).1).frames), box B18 [.int .i64 (((Clock.runGo c 0 l).1).room), .int .i64 (((Clock.runGo c 0 l).1).hand), .slice a59 (((Clock.runGo c 0 l).1).frames).length c60] 59, box B17 [.int .i64 (((Clock.touch c key).1).room), .int .i64 (((Clock.touch c key).1).hand), .slice a54 (((Clock.touch c key).1).frames).length c55] 59, box B16 [.int .i64 ((Clock.clear c).room), .int .i64 ((Clock.clear c).hand), .slice a14 ((Clock.clear c).frames).length c15] 59, own tFrame S12 a14 c15 ((Clock.clear c).frames), box B11 [.int .i64 (((Clock.run c l).1).room), .int .i64 (((Clock.run c l).1).hand), .slice a9 (((Clock.run c l).1).frames).length c10] 59, own tFrame S7 a9 c10 (((Clock.run c l).1).frames), box B6 [.int .i64 (((Clock.access c key).1).room), .int .i64 (((Clock.access c key).1).hand), .slice a4 (((Clock.access c key).1).frames).length c5] 59, own tFrame S2 a4 c5 (((Clock.access c key).1).frames), box B1 [.int .i64 c.room, .int .i64 c.hand, .slice ac_0 c.frames.length cc_0] 59, base w0] rfl rfl ?_
        refine h_take (i := 0) (ls := #[true, false, false, false, false, false, false, false, false]) rfl (by kernel_rfl) (by kernel_rfl) (by kernel_rfl) (fun _ _ _ h => h) (p_fieldAddr (B := B1) (j := 0) (j' := 0) rfl fo59_0 rfl) rfl rfl rfl (fun _ hw => HeapIs.drop hw (List.Sublist.cons_cons _ (List.Sublist.cons_cons _ (List.Sublist.cons _ (List.Sublist.cons_cons _ (List.Sublist.cons_cons _ (List.Sublist.cons_cons _ (List.Sublist.cons_cons _ (List.Sublist.cons_cons _ (List.Sublist.cons_cons _ (List.Sublist.cons_cons _ (List.Sublist.cons_cons _ (List.Sublist.cons_cons _ (List.Sublist.cons_cons _ (List.Sublist.slnil))))))))))))))) rfl ?_
        refine h_take (i := 1) (ls := #[true, true, false, false, false, false, false, false, false]) rfl (by kernel_rfl) (by kernel_rfl) (by kernel_rfl) (fun _ _ _ h => h) (p_load (i := 10) (v := .int .i64 c.room) rfl rfl sh3 rfl) rfl rfl rfl (fun _ hw => HeapIs.drop hw (List.Sublist.cons_cons _ (List.Sublist.cons_cons _ (List.Sublist.cons _ (List.Sublist.cons_cons _ (List.Sublist.cons_cons _ (List.Sublist.cons_cons _ (List.Sublist.cons_cons _ (List.Sublist.cons_cons _ (List.Sublist.cons_cons _ (List.Sublist.cons_cons _ (List.Sublist.cons_cons _ (List.Sublist.cons_cons _ (List.Sublist.cons_cons _ (List.Sublist.slnil))))))))))))))) rfl ?_
        refine h_take (i := 2) (ls := #[true, true, true, false, false, false, false, false, false]) rfl (by kernel_rfl) (by kernel_rfl) (by kernel_rfl) (fun _ _ _ h => h) (p_fieldAddr (B := B1) (j := 0) (j' := 1) rfl fo59_1 rfl) rfl rfl rfl (fun _ hw => HeapIs.drop hw (List.Sublist.cons_cons _ (List.Sublist.cons_cons _ (List.Sublist.cons _ (List.Sublist.cons_cons _ (List.Sublist.cons_cons _ (List.Sublist.cons_cons _ (List.Sublist.cons_cons _ (List.Sublist.cons_cons _ (List.Sublist.cons_cons _ (List.Sublist.cons_cons _ (List.Sublist.cons_cons _ (List.Sublist.cons_cons _ (List.Sublist.cons_cons _ (List.Sublist.slnil))))))))))))))) rfl ?_
        refine h_take (i := 3) (ls := #[true, true, true, true, false, false, false, false, false]) rfl (by kernel_rfl) (by kernel_rfl) (by kernel_rfl) (fun _ _ _ h => h) (p_load (i := 10) (v := .int .i64 c.hand) rfl rfl sh3 rfl) rfl rfl rfl (fun _ hw => HeapIs.drop hw (List.Sublist.cons_cons _ (List.Sublist.cons_cons _ (List.Sublist.cons _ (List.Sublist.cons_cons _ (List.Sublist.cons_cons _ (List.Sublist.cons_cons _ (List.Sublist.cons_cons _ (List.Sublist.cons_cons _ (List.Sublist.cons_cons _ (List.Sublist.cons_cons _ (List.Sublist.cons_cons _ (List.Sublist.cons_cons _ (List.Sublist.cons_cons _ (List.Sublist.slnil))))))))))))))) rfl ?_
        refine h_take (i := 4) (ls := #[true, true, true, true, true, false, false, false, false]) rfl (by kernel_rfl) (by kernel_rfl) (by kernel_rfl) (fun _ _ _ h => h) (p_fieldAddr (B := B1) (j := 0) (j' := 2) rfl fo59_2 rfl) rfl rfl rfl (fun _ hw => HeapIs.drop hw (List.Sublist.cons_cons _ (List.Sublist.cons_cons _ (List.Sublist.cons _ (List.Sublist.cons_cons _ (List.Sublist.cons_cons _ (List.Sublist.cons_cons _ (List.Sublist.cons_cons _ (List.Sublist.cons_cons _ (List.Sublist.cons_cons _ (List.Sublist.cons_cons _ (List.Sublist.cons_cons _ (List.Sublist.cons_cons _ (List.Sublist.cons_cons _ (List.Sublist.slnil))))))))))))))) rfl ?_
        refine h_take (i := 5) (ls := #[true, true, true, true, true, true, false, false, false]) rfl (by kernel_rfl) (by kernel_rfl) (by kernel_rfl) (fun _ _ _ h => h) (p_load (i := 10) (v := .slice ac_0 c.frames.length cc_0) rfl rfl sh57 rfl) rfl rfl rfl (fun _ hw => HeapIs.drop hw (List.Sublist.cons_cons _ (List.Sublist.cons_cons _ (List.Sublist.cons _ (List.Sublist.cons_cons _ (List.Sublist.cons_cons _ (List.Sublist.cons_cons _ (List.Sublist.cons_cons _ (List.Sublist.cons_cons _ (List.Sublist.cons_cons _ (List.Sublist.cons_cons _ (List.Sublist.cons_cons _ (List.Sublist.cons_cons _ (List.Sublist.cons_cons _ (List.Sublist.slnil))))))))))))))) rfl ?_
        refine h_one (i := 6) (ls := #[true, true, true, true, true, true, true, false, false]) (by kernel_rfl) rfl rfl ?_
        refine o_callM rfl (framesCopy_ok c.frames ac_0 cc_0 (by first | assumption | omega)) hf43 (fun w hw => (rd_base (i := 12) rfl hc_0) w hw) rfl (fun _ _ _ _ ha hA => SlO.agree ha hA) ?_
        rintro ⟨a61_6, c61_6⟩ S61_6
        refine o_nil ?_
        refine h_next (fun _ hw => HeapIs.drop hw (List.Sublist.cons _ (List.Sublist.cons_cons _ (List.Sublist.cons_cons _ (List.Sublist.cons _ (List.Sublist.cons_cons _ (List.Sublist.cons_cons _ (List.Sublist.cons_cons _ (List.Sublist.cons_cons _ (List.Sublist.cons_cons _ (List.Sublist.cons_cons _ (List.Sublist.cons_cons _ (List.Sublist.cons_cons _ (List.Sublist.cons_cons _ (List.Sublist.cons_cons _ (List.Sublist.slnil)))))))))))))))) ?_
        refine h_take (i := 7) (ls := #[true, true, true, true, true, true, true, true, false]) rfl (by kernel_rfl) (by kernel_rfl) (by kernel_rfl) (fun _ _ _ h => h) (p_build (cells := [.int .i64 c.room, .int .i64 c.hand, .slice a61_6 c.frames.length c61_6]) fp59 ze59 rfl rfl) rfl rfl rfl (fun _ hw => HeapIs.drop hw (List.Sublist.cons _ (List.Sublist.cons_cons _ (List.Sublist.cons_cons _ (List.Sublist.cons _ (List.Sublist.cons_cons _ (List.Sublist.cons_cons _ (List.Sublist.cons_cons _ (List.Sublist.cons_cons _ (List.Sublist.cons_cons _ (List.Sublist.cons_cons _ (List.Sublist.cons_cons _ (List.Sublist.cons_cons _ (List.Sublist.cons_cons _ (List.Sublist.cons_cons _ (List.Sublist.slnil)))))))))))))))) rfl ?_
        refine h_one (i := 8) (ls := #[true, true, true, true, true, true, true, true, true]) (by kernel_rfl) rfl rfl ?_
        refine o_storeN (i := 3) (vs := [.int .i64 c.room, .int .i64 c.hand, .slice a61_6 c.frames.length c61_6]) (cs' := [.int .i64 c.room, .int .i64 c.hand, .slice a61_6 c.frames.length c61_6]) rfl rfl rfl sz59 rfl rfl rfl rfl ?_
        refine o_nil ?_
        refine h_next (fun _ hw => HeapIs.drop hw (List.Sublist.cons _ (List.Sublist.cons_cons _ (List.Sublist.cons_cons _ (List.Sublist.cons _ (List.Sublist.cons_cons _ (List.Sublist.cons_cons _ (List.Sublist.cons_cons _ (List.Sublist.cons_cons _ (List.Sublist.cons_cons _ (List.Sublist.cons_cons _ (List.Sublist.cons_cons _ (List.Sublist.cons_cons _ (List.Sublist.cons_cons _ (List.Sublist.cons_cons _ (List.Sublist.slnil)))))))))))))))) ?_
        refine h_done (by kernel_rfl) ?_
        refine q_then ?_
        refine c_seq ?_
        refine c_region ?_
        refine o_pure (p_assign (v := .int .i64 0) rfl) rfl rfl rfl ?_
        refine o_nil ?_
        refine q_then ?_
        refine c_block ?_
        refine c_loop (St := Nat × DClock × Option Addr × Nat × (Nat → Prop))
          (fun ⟨i, tc, atc_0, ctc_0, Stc_0⟩ => [(3, .pointer (some ⟨B1, 0, none⟩)), (7, .pointer (some ⟨B6, 0, none⟩)), (8, .bool ((Clock.access c key).2.1)), (9, .int .i64 ((Clock.access c key).2.2)), (10, .int .i64 (Clock.accessErr c key)), (11, .pointer (some ⟨B11, 0, none⟩)), (12, .int .i64 ((Clock.run c l).2)), (13, .int .i64 (Clock.runErr c l)), (14, .pointer (some ⟨B16, 0, none⟩)), (15, .int .i64 (Clock.check c)), (16, .int .i64 (Clock.check c)), (17, .int .i64 (Clock.check c)), (18, .int .i64 (Lru.trace l)), (19, .pointer (some ⟨B17, 0, none⟩)), (20, .pointer (some ⟨B18, 0, none⟩)), (21, .pointer (some ⟨B19, 0, none⟩)), (22, .bool ((Clock.touch c key).2.1)), (23, .int .i64 ((Clock.touch c key).2.2)), (24, .int .i64 ((Clock.runGo c 0 l).2)), (25, .int .i64 (i : Int))])
          (fun ⟨i, tc, atc_0, ctc_0, Stc_0⟩ => [own tFrame Stc_0 atc_0 ctc_0 tc.frames, loose tFrame (a59 = ac_0 ∧ c60 = cc_0 ∧ (((Clock.runGo c 0 l).1).frames) = c.frames) S57 a59 c60 (((Clock.runGo c 0 l).1).frames), own tFrame S52 a54 c55 (((Clock.touch c key).1).frames), box B19 [.int .i64 tc.room, .int .i64 tc.hand, .slice atc_0 tc.frames.length ctc_0] 59, box B18 [.int .i64 (((Clock.runGo c 0 l).1).room), .int .i64 (((Clock.runGo c 0 l).1).hand), .slice a59 (((Clock.runGo c 0 l).1).frames).length c60] 59, box B17 [.int .i64 (((Clock.touch c key).1).room), .int .i64 (((Clock.touch c key).1).hand), .slice a54 (((Clock.touch c key).1).frames).length c55] 59, box B16 [.int .i64 ((Clock.clear c).room), .int .i64 ((Clock.clear c).hand), .slice a14 ((Clock.clear c).frames).length c15] 59, own tFrame S12 a14 c15 ((Clock.clear c).frames), box B11 [.int .i64 (((Clock.run c l).1).room), .int .i64 (((Clock.run c l).1).hand), .slice a9 (((Clock.run c l).1).frames).length c10] 59, own tFrame S7 a9 c10 (((Clock.run c l).1).frames), box B6 [.int .i64 (((Clock.access c key).1).room), .int .i64 (((Clock.access c key).1).hand), .slice a4 (((Clock.access c key).1).frames).length c5] 59, own tFrame S2 a4 c5 (((Clock.access c key).1).frames), box B1 [.int .i64 c.room, .int .i64 c.hand, .slice ac_0 c.frames.length cc_0] 59, base w0])
          (fun ⟨i, tc, atc_0, ctc_0, Stc_0⟩ => tc.room = c.room ∧ tc.hand = c.hand ∧ Clock.UInv c.frames tc.frames i)
          (fun ⟨i, tc, atc_0, ctc_0, Stc_0⟩ => c.frames.length - i)
          (0, c, a61_6, c61_6, S61_6) ?_ (Sub.cons rfl (Sub.cons rfl (Sub.cons rfl (Sub.cons rfl (Sub.cons rfl (Sub.cons rfl (Sub.cons rfl (Sub.cons rfl (Sub.cons rfl (Sub.cons rfl (Sub.cons rfl (Sub.cons rfl (Sub.cons rfl (Sub.cons rfl (Sub.cons rfl (Sub.cons rfl (Sub.cons rfl (Sub.cons rfl (Sub.cons rfl (Sub.cons rfl (Sub.nil _))))))))))))))))))))) (fun _ hw => hw) ?_
        · exact ⟨rfl, rfl, Clock.UInv.start _⟩
        rintro ⟨i, tc, atc_0, ctc_0, Stc_0⟩ hI K hK62
        have hul := hI.2.2.len
        show SC Try.prog 147 w0 _ _ [(3, .pointer (some ⟨B1, 0, none⟩)), (7, .pointer (some ⟨B6, 0, none⟩)), (8, .bool ((Clock.access c key).2.1)), (9, .int .i64 ((Clock.access c key).2.2)), (10, .int .i64 (Clock.accessErr c key)), (11, .pointer (some ⟨B11, 0, none⟩)), (12, .int .i64 ((Clock.run c l).2)), (13, .int .i64 (Clock.runErr c l)), (14, .pointer (some ⟨B16, 0, none⟩)), (15, .int .i64 (Clock.check c)), (16, .int .i64 (Clock.check c)), (17, .int .i64 (Clock.check c)), (18, .int .i64 (Lru.trace l)), (19, .pointer (some ⟨B17, 0, none⟩)), (20, .pointer (some ⟨B18, 0, none⟩)), (21, .pointer (some ⟨B19, 0, none⟩)), (22, .bool ((Clock.touch c key).2.1)), (23, .int .i64 ((Clock.touch c key).2.2)), (24, .int .i64 ((Clock.runGo c 0 l).2)), (25, .int .i64 (i : Int))] [own tFrame Stc_0 atc_0 ctc_0 tc.frames, loose tFrame (a59 = ac_0 ∧ c60 = cc_0 ∧ (((Clock.runGo c 0 l).1).frames) = c.frames) S57 a59 c60 (((Clock.runGo c 0 l).1).frames), own tFrame S52 a54 c55 (((Clock.touch c key).1).frames), box B19 [.int .i64 tc.room, .int .i64 tc.hand, .slice atc_0 tc.frames.length ctc_0] 59, box B18 [.int .i64 (((Clock.runGo c 0 l).1).room), .int .i64 (((Clock.runGo c 0 l).1).hand), .slice a59 (((Clock.runGo c 0 l).1).frames).length c60] 59, box B17 [.int .i64 (((Clock.touch c key).1).room), .int .i64 (((Clock.touch c key).1).hand), .slice a54 (((Clock.touch c key).1).frames).length c55] 59, box B16 [.int .i64 ((Clock.clear c).room), .int .i64 ((Clock.clear c).hand), .slice a14 ((Clock.clear c).frames).length c15] 59, own tFrame S12 a14 c15 ((Clock.clear c).frames), box B11 [.int .i64 (((Clock.run c l).1).room), .int .i64 (((Clock.run c l).1).hand), .slice a9 (((Clock.run c l).1).frames).length c10] 59, own tFrame S7 a9 c10 (((Clock.run c l).1).frames), box B6 [.int .i64 (((Clock.access c key).1).room), .int .i64 (((Clock.access c key).1).hand), .slice a4 (((Clock.access c key).1).frames).length c5] 59, own tFrame S2 a4 c5 (((Clock.access c key).1).frames), box B1 [.int .i64 c.room, .int .i64 c.hand, .slice ac_0 c.frames.length cc_0] 59, base w0]
        refine c_seq ?_
        refine c_seq ?_
        refine c_region ?_
        refine o_pure (p_move (v := .int .i64 (i : Int)) rfl) rfl rfl rfl ?_
        refine o_pure (p_fieldAddr (B := B19) (j := 0) (j' := 2) rfl fo59_2 rfl) rfl rfl rfl ?_
        refine o_pure (p_load (i := 3) (v := .slice atc_0 tc.frames.length ctc_0) rfl rfl sh57 rfl) rfl rfl rfl ?_
        refine o_pure (p_len_slice (len := tc.frames.length) rfl rfl Try.underlying57) rfl rfl rfl ?_
        refine o_pure (p_lt (p := (i : Int)) (q := (tc.frames.length : Int)) rfl rfl) rfl rfl rfl ?_
        refine o_nil ?_
        refine q_then ?_
        refine c_cond (b := decide ((i : Int) < (tc.frames.length : Int))) rfl (fun hc63 => ?_) (fun hc63 => ?_)
        · simp only [decide_eq_true_eq] at hc63
          refine c_skip ?_
          refine q_then ?_
          refine c_seq ?_
          refine c_block ?_
          refine c_region ?_
          refine o_pure (p_fieldAddr (B := B19) (j := 0) (j' := 2) rfl fo59_2 rfl) rfl rfl rfl ?_
          refine o_pure (p_load (i := 3) (v := .slice atc_0 tc.frames.length ctc_0) rfl rfl sh57 rfl) rfl rfl rfl ?_
          refine o_pure (p_move (v := .int .i64 (i : Int)) rfl) rfl rfl rfl ?_
          refine o_pure (p_indexAddr (L := tc.frames) (T := tFrame) (i := (i : Int)) rfl rfl (rd_own (i := 0) rfl) Try.underlying57 sz73 (by omega) (by omega)) rfl rfl rfl ?_
          refine o_pure (p_fieldAddrE rfl fo73_1) rfl rfl rfl ?_
          refine o_storeF (j := 1) (i := 0) (T := tFrame) (idx := i) (v := .bool false) (vs := [.bool false]) (z := (⟨(tc.frames[i]).key, false⟩ : DFrame)) (F' := [(3, .pointer (some ⟨B1, 0, none⟩)), (7, .pointer (some ⟨B6, 0, none⟩)), (8, .bool ((Clock.access c key).2.1)), (9, .int .i64 ((Clock.access c key).2.2)), (10, .int .i64 (Clock.accessErr c key)), (11, .pointer (some ⟨B11, 0, none⟩)), (12, .int .i64 ((Clock.run c l).2)), (13, .int .i64 (Clock.runErr c l)), (14, .pointer (some ⟨B16, 0, none⟩)), (15, .int .i64 (Clock.check c)), (16, .int .i64 (Clock.check c)), (17, .int .i64 (Clock.check c)), (18, .int .i64 (Lru.trace l)), (19, .pointer (some ⟨B17, 0, none⟩)), (20, .pointer (some ⟨B18, 0, none⟩)), (21, .pointer (some ⟨B19, 0, none⟩)), (22, .bool ((Clock.touch c key).2.1)), (23, .int .i64 ((Clock.touch c key).2.2)), (24, .int .i64 ((Clock.runGo c 0 l).2)), (25, .int .i64 (i : Int))]) rfl rfl rfl rfl (by first | assumption | omega | (simp only [List.length_set]; omega)) sz4 rfl rfl rfl rfl (Sub.cons rfl (Sub.cons rfl (Sub.cons rfl (Sub.cons rfl (Sub.cons rfl (Sub.cons rfl (Sub.cons rfl (Sub.cons rfl (Sub.cons rfl (Sub.cons rfl (Sub.cons rfl (Sub.cons rfl (Sub.cons rfl (Sub.cons rfl (Sub.cons rfl (Sub.cons rfl (Sub.cons rfl (Sub.cons rfl (Sub.cons rfl (Sub.cons rfl (Sub.nil _))))))))))))))))))))) ?_
          refine o_asH (H := [own tFrame Stc_0 atc_0 ctc_0 (tc.frames.set i (⟨(tc.frames[i]).key, false⟩ : DFrame)), loose tFrame (a59 = ac_0 ∧ c60 = cc_0 ∧ (((Clock.runGo c 0 l).1).frames) = c.frames) S57 a59 c60 (((Clock.runGo c 0 l).1).frames), own tFrame S52 a54 c55 (((Clock.touch c key).1).frames), box B19 [.int .i64 tc.room, .int .i64 tc.hand, .slice atc_0 tc.frames.length ctc_0] 59, box B18 [.int .i64 (((Clock.runGo c 0 l).1).room), .int .i64 (((Clock.runGo c 0 l).1).hand), .slice a59 (((Clock.runGo c 0 l).1).frames).length c60] 59, box B17 [.int .i64 (((Clock.touch c key).1).room), .int .i64 (((Clock.touch c key).1).hand), .slice a54 (((Clock.touch c key).1).frames).length c55] 59, box B16 [.int .i64 ((Clock.clear c).room), .int .i64 ((Clock.clear c).hand), .slice a14 ((Clock.clear c).frames).length c15] 59, own tFrame S12 a14 c15 ((Clock.clear c).frames), box B11 [.int .i64 (((Clock.run c l).1).room), .int .i64 (((Clock.run c l).1).hand), .slice a9 (((Clock.run c l).1).frames).length c10] 59, own tFrame S7 a9 c10 (((Clock.run c l).1).frames), box B6 [.int .i64 (((Clock.access c key).1).room), .int .i64 (((Clock.access c key).1).hand), .slice a4 (((Clock.access c key).1).frames).length c5] 59, own tFrame S2 a4 c5 (((Clock.access c key).1).frames), box B1 [.int .i64 c.room, .int .i64 c.hand, .slice ac_0 c.frames.length cc_0] 59, base w0]) (H' := [own tFrame Stc_0 atc_0 ctc_0 (tc.frames.set i (⟨(tc.frames[i]).key, false⟩ : DFrame)), loose tFrame (a59 = ac_0 ∧ c60 = cc_0 ∧ (((Clock.runGo c 0 l).1).frames) = c.frames) S57 a59 c60 (((Clock.runGo c 0 l).1).frames), own tFrame S52 a54 c55 (((Clock.touch c key).1).frames), box B19 [.int .i64 tc.room, .int .i64 tc.hand, .slice atc_0 (tc.frames.set i (⟨(tc.frames[i]).key, false⟩ : DFrame)).length ctc_0] 59, box B18 [.int .i64 (((Clock.runGo c 0 l).1).room), .int .i64 (((Clock.runGo c 0 l).1).hand), .slice a59 (((Clock.runGo c 0 l).1).frames).length c60] 59, box B17 [.int .i64 (((Clock.touch c key).1).room), .int .i64 (((Clock.touch c key).1).hand), .slice a54 (((Clock.touch c key).1).frames).length c55] 59, box B16 [.int .i64 ((Clock.clear c).room), .int .i64 ((Clock.clear c).hand), .slice a14 ((Clock.clear c).frames).length c15] 59, own tFrame S12 a14 c15 ((Clock.clear c).frames), box B11 [.int .i64 (((Clock.run c l).1).room), .int .i64 (((Clock.run c l).1).hand), .slice a9 (((Clock.run c l).1).frames).length c10] 59, own tFrame S7 a9 c10 (((Clock.run c l).1).frames), box B6 [.int .i64 (((Clock.access c key).1).room), .int .i64 (((Clock.access c key).1).hand), .slice a4 (((Clock.access c key).1).frames).length c5] 59, own tFrame S2 a4 c5 (((Clock.access c key).1).frames), box B1 [.int .i64 c.room, .int .i64 c.hand, .slice ac_0 c.frames.length cc_0] 59, base w0]) (by simp only [List.length_set]) ?_
          refine o_nil ?_
          refine q_block_normal (q_then ?_)
          refine c_region ?_
          refine o_pure (p_move (v := .int .i64 (i : Int)) rfl) rfl rfl rfl ?_
          refine o_pure (p_addb (p := (i : Int)) (q := 1) rfl rfl (by omega)) rfl rfl rfl ?_
          refine o_pure (p_assign (v := .int .i64 ((i : Int) + 1)) rfl) rfl rfl rfl ?_
          refine o_nil ?_
          refine q_round hK62 (i + 1, (⟨tc.room, tc.hand, (tc.frames.set i (⟨(tc.frames[i]).key, false⟩ : DFrame))⟩ : DClock), atc_0, ctc_0, Stc_0) ?_ ?_ ?_ ?_
          · clear hK62
            exact ⟨hI.1, hI.2.1, hI.2.2.next (by omega) (by omega)⟩
          · (try dsimp only); omega
          · exact Sub.cons rfl (Sub.cons rfl (Sub.cons rfl (Sub.cons rfl (Sub.cons rfl (Sub.cons rfl (Sub.cons rfl (Sub.cons rfl (Sub.cons rfl (Sub.cons rfl (Sub.cons rfl (Sub.cons rfl (Sub.cons rfl (Sub.cons rfl (Sub.cons rfl (Sub.cons rfl (Sub.cons rfl (Sub.cons rfl (Sub.cons rfl (Sub.cons rfl (Sub.nil _))))))))))))))))))))
          · exact fun _ hw => HeapIs.pick hw [0, 1, 2, 3, 4, 5, 6, 7, 8, 9, 10, 11, 12, 13] (by decide) rfl
        · simp only [decide_eq_false_iff_not, Int.not_lt] at hc63
          refine c_exit ?_
          refine q_then_exit (q_then_exit (q_block_exit (q_then ?_)))
          refine c_seq ?_
          refine c_region ?_
          refine o_call0 (v := .bool true) rfl (clockBegun_ok ) hf44 (fun _ _ => trivial) rfl ?_
          refine o_pure (p_move (v := .bool true) rfl) rfl rfl rfl ?_
          refine o_unguard 96 rfl rfl ?_
          refine o_pure (p_load_agg (i := 12) (vs := [.int .i64 c.room, .int .i64 c.hand, .slice ac_0 c.frames.length cc_0]) rfl rfl sh59 rfl rfl) rfl rfl rfl ?_
          refine o_unguard 96 rfl rfl ?_
          refine o_call0 (v := .int .i64 (Clock.check c)) rfl (ccheck_ok c ac_0 cc_0) hf45 (fun w hw => (rd_base (i := 13) rfl hc_0) w hw) rfl ?_
          refine o_unguard 96 rfl rfl ?_
          refine o_pure (p_move (v := .int .i64 (Clock.check c)) rfl) rfl rfl rfl ?_
          refine o_unguard 96 rfl rfl ?_
          refine o_pure (p_eq (p := (Clock.check c)) (q := (Clock.check c)) rfl rfl) rfl rfl rfl ?_
          refine o_pure (p_pick_true (u := .bool ((Clock.check c) == (Clock.check c))) rfl rfl) rfl rfl rfl ?_
          refine o_pure (p_move (v := .bool ((Clock.check c) == (Clock.check c))) rfl) rfl rfl rfl ?_
          refine o_and (p := 106) 4 (decide (((Clock.access c key).1) = ((Clock.touch c key).1))) ?_ ?_ ?_
          · intro hb64 hk
            simp only [beq_iff_eq] at hb64
            refine o_unguard 102 rfl rfl ?_
            refine o_pure (p_load_agg (i := 10) (vs := [.int .i64 (((Clock.access c key).1).room), .int .i64 (((Clock.access c key).1).hand), .slice a4 (((Clock.access c key).1).frames).length c5]) rfl rfl sh59 rfl rfl) rfl rfl rfl ?_
            refine o_unguard 102 rfl rfl ?_
            refine o_pure (p_load_agg (i := 5) (vs := [.int .i64 (((Clock.touch c key).1).room), .int .i64 (((Clock.touch c key).1).hand), .slice a54 (((Clock.touch c key).1).frames).length c55]) rfl rfl sh59 rfl rfl) rfl rfl rfl ?_
            refine o_unguard 102 rfl rfl ?_
            refine o_call0 (v := .bool (decide (((Clock.access c key).1) = ((Clock.touch c key).1)))) rfl (sameClock_ok ((Clock.access c key).1) a4 c5 ((Clock.touch c key).1) a54 c55) hf46 (fun w hw => ⟨(rd_own (i := 11) rfl) w hw, (rd_own (i := 2) rfl) w hw⟩) rfl ?_
            refine o_pure (p_pick_true (u := .bool (decide (((Clock.access c key).1) = ((Clock.touch c key).1)))) rfl rfl) rfl rfl rfl ?_
            exact o_sub (Sub.cons rfl (Sub.skip rfl (Sub.skip rfl (Sub.skip rfl (Sub.skip rfl (Sub.skip rfl (Sub.refl _))))))) hk
          · intro hb64 hk
            refine o_guard_no rfl 102 rfl rfl rfl rfl rfl ?_
            refine o_guard_no rfl 102 rfl rfl rfl rfl rfl ?_
            refine o_guard_no rfl 102 rfl rfl rfl rfl rfl ?_
            refine o_pure (p_pick_false (v := .bool false) rfl rfl) rfl rfl rfl ?_
            exact o_sub (Sub.cons rfl (Sub.skip rfl (Sub.skip rfl (Sub.skip rfl (Sub.skip rfl (Sub.skip rfl (Sub.refl _))))))) hk
          refine o_pure (p_move (v := .bool (((Clock.check c) == (Clock.check c)) && (decide (((Clock.access c key).1) = ((Clock.touch c key).1))))) rfl) rfl rfl rfl ?_
          refine o_and (p := 111) 4 (((Clock.access c key).2.1) == ((Clock.touch c key).2.1)) ?_ ?_ ?_
          · intro hb65 hk
            simp only [Bool.and_eq_true, beq_iff_eq, decide_eq_true_eq] at hb65
            refine o_unguard 107 rfl rfl ?_
            refine o_pure (p_move (v := .bool ((Clock.access c key).2.1)) rfl) rfl rfl rfl ?_
            refine o_unguard 107 rfl rfl ?_
            refine o_pure (p_move (v := .bool ((Clock.touch c key).2.1)) rfl) rfl rfl rfl ?_
            refine o_unguard 107 rfl rfl ?_
            refine o_pure (p_eqBool (b := ((Clock.access c key).2.1)) (c := ((Clock.touch c key).2.1)) rfl rfl Try.underlying4) rfl rfl rfl ?_
            refine o_pure (p_pick_true (u := .bool (((Clock.access c key).2.1) == ((Clock.touch c key).2.1))) rfl rfl) rfl rfl rfl ?_
            exact o_sub (Sub.cons rfl (Sub.skip rfl (Sub.skip rfl (Sub.skip rfl (Sub.skip rfl (Sub.skip rfl (Sub.refl _))))))) hk
          · intro hb65 hk
            refine o_guard_no rfl 107 rfl rfl rfl rfl rfl ?_
            refine o_guard_no rfl 107 rfl rfl rfl rfl rfl ?_
            refine o_guard_no rfl 107 rfl rfl rfl rfl rfl ?_
            refine o_pure (p_pick_false (v := .bool false) rfl rfl) rfl rfl rfl ?_
            exact o_sub (Sub.cons rfl (Sub.skip rfl (Sub.skip rfl (Sub.skip rfl (Sub.skip rfl (Sub.skip rfl (Sub.refl _))))))) hk
          refine o_pure (p_move (v := .bool ((((Clock.check c) == (Clock.check c)) && (decide (((Clock.access c key).1) = ((Clock.touch c key).1)))) && (((Clock.access c key).2.1) == ((Clock.touch c key).2.1)))) rfl) rfl rfl rfl ?_
          refine o_and (p := 116) 4 (((Clock.access c key).2.2) == ((Clock.touch c key).2.2)) ?_ ?_ ?_
          · intro hb66 hk
            simp only [Bool.and_eq_true, beq_iff_eq, decide_eq_true_eq] at hb66
            refine o_unguard 112 rfl rfl ?_
            refine o_pure (p_move (v := .int .i64 ((Clock.access c key).2.2)) rfl) rfl rfl rfl ?_
            refine o_unguard 112 rfl rfl ?_
            refine o_pure (p_move (v := .int .i64 ((Clock.touch c key).2.2)) rfl) rfl rfl rfl ?_
            refine o_unguard 112 rfl rfl ?_
            refine o_pure (p_eq (p := ((Clock.access c key).2.2)) (q := ((Clock.touch c key).2.2)) rfl rfl) rfl rfl rfl ?_
            refine o_pure (p_pick_true (u := .bool (((Clock.access c key).2.2) == ((Clock.touch c key).2.2))) rfl rfl) rfl rfl rfl ?_
            exact o_sub (Sub.cons rfl (Sub.skip rfl (Sub.skip rfl (Sub.skip rfl (Sub.skip rfl (Sub.skip rfl (Sub.refl _))))))) hk
          · intro hb66 hk
            refine o_guard_no rfl 112 rfl rfl rfl rfl rfl ?_
            refine o_guard_no rfl 112 rfl rfl rfl rfl rfl ?_
            refine o_guard_no rfl 112 rfl rfl rfl rfl rfl ?_
            refine o_pure (p_pick_false (v := .bool false) rfl rfl) rfl rfl rfl ?_
            exact o_sub (Sub.cons rfl (Sub.skip rfl (Sub.skip rfl (Sub.skip rfl (Sub.skip rfl (Sub.skip rfl (Sub.refl _))))))) hk
          refine o_pure (p_move (v := .bool (((((Clock.check c) == (Clock.check c)) && (decide (((Clock.access c key).1) = ((Clock.touch c key).1)))) && (((Clock.access c key).2.1) == ((Clock.touch c key).2.1))) && (((Clock.access c key).2.2) == ((Clock.touch c key).2.2)))) rfl) rfl rfl rfl ?_
          refine o_and (p := 121) 4 ((Clock.accessErr c key) == (Clock.check c)) ?_ ?_ ?_
          · intro hb67 hk
            simp only [Bool.and_eq_true, beq_iff_eq, decide_eq_true_eq] at hb67
            refine o_unguard 117 rfl rfl ?_
            refine o_pure (p_move (v := .int .i64 (Clock.accessErr c key)) rfl) rfl rfl rfl ?_
            refine o_unguard 117 rfl rfl ?_
            refine o_pure (p_move (v := .int .i64 (Clock.check c)) rfl) rfl rfl rfl ?_
            refine o_unguard 117 rfl rfl ?_
            refine o_pure (p_eq (p := (Clock.accessErr c key)) (q := (Clock.check c)) rfl rfl) rfl rfl rfl ?_
            refine o_pure (p_pick_true (u := .bool ((Clock.accessErr c key) == (Clock.check c))) rfl rfl) rfl rfl rfl ?_
            exact o_sub (Sub.cons rfl (Sub.skip rfl (Sub.skip rfl (Sub.skip rfl (Sub.skip rfl (Sub.skip rfl (Sub.refl _))))))) hk
          · intro hb67 hk
            refine o_guard_no rfl 117 rfl rfl rfl rfl rfl ?_
            refine o_guard_no rfl 117 rfl rfl rfl rfl rfl ?_
            refine o_guard_no rfl 117 rfl rfl rfl rfl rfl ?_
            refine o_pure (p_pick_false (v := .bool false) rfl rfl) rfl rfl rfl ?_
            exact o_sub (Sub.cons rfl (Sub.skip rfl (Sub.skip rfl (Sub.skip rfl (Sub.skip rfl (Sub.skip rfl (Sub.refl _))))))) hk
          refine o_pure (p_move (v := .bool ((((((Clock.check c) == (Clock.check c)) && (decide (((Clock.access c key).1) = ((Clock.touch c key).1)))) && (((Clock.access c key).2.1) == ((Clock.touch c key).2.1))) && (((Clock.access c key).2.2) == ((Clock.touch c key).2.2))) && ((Clock.accessErr c key) == (Clock.check c)))) rfl) rfl rfl rfl ?_
          refine o_and (p := 126) 4 (decide (((Clock.run c l).1) = ((Clock.runGo c 0 l).1))) ?_ ?_ ?_
          · intro hb68 hk
            simp only [Bool.and_eq_true, beq_iff_eq, decide_eq_true_eq] at hb68
            refine o_unguard 122 rfl rfl ?_
            refine o_pure (p_load_agg (i := 8) (vs := [.int .i64 (((Clock.run c l).1).room), .int .i64 (((Clock.run c l).1).hand), .slice a9 (((Clock.run c l).1).frames).length c10]) rfl rfl sh59 rfl rfl) rfl rfl rfl ?_
            refine o_unguard 122 rfl rfl ?_
            refine o_pure (p_load_agg (i := 4) (vs := [.int .i64 (((Clock.runGo c 0 l).1).room), .int .i64 (((Clock.runGo c 0 l).1).hand), .slice a59 (((Clock.runGo c 0 l).1).frames).length c60]) rfl rfl sh59 rfl rfl) rfl rfl rfl ?_
            refine o_unguard 122 rfl rfl ?_
            refine o_call0 (v := .bool (decide (((Clock.run c l).1) = ((Clock.runGo c 0 l).1)))) rfl (sameClock_ok ((Clock.run c l).1) a9 c10 ((Clock.runGo c 0 l).1) a59 c60) hf46 (fun w hw => ⟨(rd_own (i := 9) rfl) w hw, (rd_loose (i := 1) rfl (fun hφ => by obtain ⟨h1, h2, h3⟩ := hφ; rw [h1, h2, h3]; exact (rd_base (i := 13) rfl hc_0))) w hw⟩) rfl ?_
            refine o_pure (p_pick_true (u := .bool (decide (((Clock.run c l).1) = ((Clock.runGo c 0 l).1)))) rfl rfl) rfl rfl rfl ?_
            exact o_sub (Sub.cons rfl (Sub.skip rfl (Sub.skip rfl (Sub.skip rfl (Sub.skip rfl (Sub.skip rfl (Sub.refl _))))))) hk
          · intro hb68 hk
            refine o_guard_no rfl 122 rfl rfl rfl rfl rfl ?_
            refine o_guard_no rfl 122 rfl rfl rfl rfl rfl ?_
            refine o_guard_no rfl 122 rfl rfl rfl rfl rfl ?_
            refine o_pure (p_pick_false (v := .bool false) rfl rfl) rfl rfl rfl ?_
            exact o_sub (Sub.cons rfl (Sub.skip rfl (Sub.skip rfl (Sub.skip rfl (Sub.skip rfl (Sub.skip rfl (Sub.refl _))))))) hk
          refine o_pure (p_move (v := .bool (((((((Clock.check c) == (Clock.check c)) && (decide (((Clock.access c key).1) = ((Clock.touch c key).1)))) && (((Clock.access c key).2.1) == ((Clock.touch c key).2.1))) && (((Clock.access c key).2.2) == ((Clock.touch c key).2.2))) && ((Clock.accessErr c key) == (Clock.check c))) && (decide (((Clock.run c l).1) = ((Clock.runGo c 0 l).1))))) rfl) rfl rfl rfl ?_
          refine o_and (p := 131) 4 (((Clock.run c l).2) == ((Clock.runGo c 0 l).2)) ?_ ?_ ?_
          · intro hb69 hk
            simp only [Bool.and_eq_true, beq_iff_eq, decide_eq_true_eq] at hb69
            refine o_unguard 127 rfl rfl ?_
            refine o_pure (p_move (v := .int .i64 ((Clock.run c l).2)) rfl) rfl rfl rfl ?_
            refine o_unguard 127 rfl rfl ?_
            refine o_pure (p_move (v := .int .i64 ((Clock.runGo c 0 l).2)) rfl) rfl rfl rfl ?_
            refine o_unguard 127 rfl rfl ?_
            refine o_pure (p_eq (p := ((Clock.run c l).2)) (q := ((Clock.runGo c 0 l).2)) rfl rfl) rfl rfl rfl ?_
            refine o_pure (p_pick_true (u := .bool (((Clock.run c l).2) == ((Clock.runGo c 0 l).2))) rfl rfl) rfl rfl rfl ?_
            exact o_sub (Sub.cons rfl (Sub.skip rfl (Sub.skip rfl (Sub.skip rfl (Sub.skip rfl (Sub.skip rfl (Sub.refl _))))))) hk
          · intro hb69 hk
            refine o_guard_no rfl 127 rfl rfl rfl rfl rfl ?_
            refine o_guard_no rfl 127 rfl rfl rfl rfl rfl ?_
            refine o_guard_no rfl 127 rfl rfl rfl rfl rfl ?_
            refine o_pure (p_pick_false (v := .bool false) rfl rfl) rfl rfl rfl ?_
            exact o_sub (Sub.cons rfl (Sub.skip rfl (Sub.skip rfl (Sub.skip rfl (Sub.skip rfl (Sub.skip rfl (Sub.refl _))))))) hk
          refine o_pure (p_move (v := .bool ((((((((Clock.check c) == (Clock.check c)) && (decide (((Clock.access c key).1) = ((Clock.touch c key).1)))) && (((Clock.access c key).2.1) == ((Clock.touch c key).2.1))) && (((Clock.access c key).2.2) == ((Clock.touch c key).2.2))) && ((Clock.accessErr c key) == (Clock.check c))) && (decide (((Clock.run c l).1) = ((Clock.runGo c 0 l).1)))) && (((Clock.run c l).2) == ((Clock.runGo c 0 l).2)))) rfl) rfl rfl rfl ?_
          refine o_and (p := 136) 4 ((Clock.runErr c l) == (Lru.trace l)) ?_ ?_ ?_
          · intro hb70 hk
            simp only [Bool.and_eq_true, beq_iff_eq, decide_eq_true_eq] at hb70
            refine o_unguard 132 rfl rfl ?_
            refine o_pure (p_move (v := .int .i64 (Clock.runErr c l)) rfl) rfl rfl rfl ?_
            refine o_unguard 132 rfl rfl ?_
            refine o_pure (p_move (v := .int .i64 (Lru.trace l)) rfl) rfl rfl rfl ?_
            refine o_unguard 132 rfl rfl ?_
            refine o_pure (p_eq (p := (Clock.runErr c l)) (q := (Lru.trace l)) rfl rfl) rfl rfl rfl ?_
            refine o_pure (p_pick_true (u := .bool ((Clock.runErr c l) == (Lru.trace l))) rfl rfl) rfl rfl rfl ?_
            exact o_sub (Sub.cons rfl (Sub.skip rfl (Sub.skip rfl (Sub.skip rfl (Sub.skip rfl (Sub.skip rfl (Sub.refl _))))))) hk
          · intro hb70 hk
            refine o_guard_no rfl 132 rfl rfl rfl rfl rfl ?_
            refine o_guard_no rfl 132 rfl rfl rfl rfl rfl ?_
            refine o_guard_no rfl 132 rfl rfl rfl rfl rfl ?_
            refine o_pure (p_pick_false (v := .bool false) rfl rfl) rfl rfl rfl ?_
            exact o_sub (Sub.cons rfl (Sub.skip rfl (Sub.skip rfl (Sub.skip rfl (Sub.skip rfl (Sub.skip rfl (Sub.refl _))))))) hk
          refine o_pure (p_move (v := .bool (((((((((Clock.check c) == (Clock.check c)) && (decide (((Clock.access c key).1) = ((Clock.touch c key).1)))) && (((Clock.access c key).2.1) == ((Clock.touch c key).2.1))) && (((Clock.access c key).2.2) == ((Clock.touch c key).2.2))) && ((Clock.accessErr c key) == (Clock.check c))) && (decide (((Clock.run c l).1) = ((Clock.runGo c 0 l).1)))) && (((Clock.run c l).2) == ((Clock.runGo c 0 l).2))) && ((Clock.runErr c l) == (Lru.trace l)))) rfl) rfl rfl rfl ?_
          refine o_and (p := 141) 4 (decide ((Clock.clear c) = tc)) ?_ ?_ ?_
          · intro hb71 hk
            simp only [Bool.and_eq_true, beq_iff_eq, decide_eq_true_eq] at hb71
            refine o_unguard 137 rfl rfl ?_
            refine o_pure (p_load_agg (i := 6) (vs := [.int .i64 ((Clock.clear c).room), .int .i64 ((Clock.clear c).hand), .slice a14 ((Clock.clear c).frames).length c15]) rfl rfl sh59 rfl rfl) rfl rfl rfl ?_
            refine o_unguard 137 rfl rfl ?_
            refine o_pure (p_load_agg (i := 3) (vs := [.int .i64 tc.room, .int .i64 tc.hand, .slice atc_0 tc.frames.length ctc_0]) rfl rfl sh59 rfl rfl) rfl rfl rfl ?_
            refine o_unguard 137 rfl rfl ?_
            refine o_call0 (v := .bool (decide ((Clock.clear c) = tc))) rfl (sameClock_ok (Clock.clear c) a14 c15 tc atc_0 ctc_0) hf46 (fun w hw => ⟨(rd_own (i := 7) rfl) w hw, (rd_own (i := 0) rfl) w hw⟩) rfl ?_
            refine o_pure (p_pick_true (u := .bool (decide ((Clock.clear c) = tc))) rfl rfl) rfl rfl rfl ?_
            exact o_sub (Sub.cons rfl (Sub.skip rfl (Sub.skip rfl (Sub.skip rfl (Sub.skip rfl (Sub.skip rfl (Sub.refl _))))))) hk
          · intro hb71 hk
            refine o_guard_no rfl 137 rfl rfl rfl rfl rfl ?_
            refine o_guard_no rfl 137 rfl rfl rfl rfl rfl ?_
            refine o_guard_no rfl 137 rfl rfl rfl rfl rfl ?_
            refine o_pure (p_pick_false (v := .bool false) rfl rfl) rfl rfl rfl ?_
            exact o_sub (Sub.cons rfl (Sub.skip rfl (Sub.skip rfl (Sub.skip rfl (Sub.skip rfl (Sub.skip rfl (Sub.refl _))))))) hk
          refine o_pure (p_move (v := .bool ((((((((((Clock.check c) == (Clock.check c)) && (decide (((Clock.access c key).1) = ((Clock.touch c key).1)))) && (((Clock.access c key).2.1) == ((Clock.touch c key).2.1))) && (((Clock.access c key).2.2) == ((Clock.touch c key).2.2))) && ((Clock.accessErr c key) == (Clock.check c))) && (decide (((Clock.run c l).1) = ((Clock.runGo c 0 l).1)))) && (((Clock.run c l).2) == ((Clock.runGo c 0 l).2))) && ((Clock.runErr c l) == (Lru.trace l))) && (decide ((Clock.clear c) = tc)))) rfl) rfl rfl rfl ?_
          refine o_and (p := 146) 4 ((Clock.check c) == (Clock.check c)) ?_ ?_ ?_
          · intro hb72 hk
            simp only [Bool.and_eq_true, beq_iff_eq, decide_eq_true_eq] at hb72
            refine o_unguard 142 rfl rfl ?_
            refine o_pure (p_move (v := .int .i64 (Clock.check c)) rfl) rfl rfl rfl ?_
            refine o_unguard 142 rfl rfl ?_
            refine o_pure (p_move (v := .int .i64 (Clock.check c)) rfl) rfl rfl rfl ?_
            refine o_unguard 142 rfl rfl ?_
            refine o_pure (p_eq (p := (Clock.check c)) (q := (Clock.check c)) rfl rfl) rfl rfl rfl ?_
            refine o_pure (p_pick_true (u := .bool ((Clock.check c) == (Clock.check c))) rfl rfl) rfl rfl rfl ?_
            exact o_sub (Sub.cons rfl (Sub.skip rfl (Sub.skip rfl (Sub.skip rfl (Sub.skip rfl (Sub.skip rfl (Sub.refl _))))))) hk
          · intro hb72 hk
            refine o_guard_no rfl 142 rfl rfl rfl rfl rfl ?_
            refine o_guard_no rfl 142 rfl rfl rfl rfl rfl ?_
            refine o_guard_no rfl 142 rfl rfl rfl rfl rfl ?_
            refine o_pure (p_pick_false (v := .bool false) rfl rfl) rfl rfl rfl ?_
            exact o_sub (Sub.cons rfl (Sub.skip rfl (Sub.skip rfl (Sub.skip rfl (Sub.skip rfl (Sub.skip rfl (Sub.refl _))))))) hk
          refine o_pure (p_assign (v := .bool (((((((((((Clock.check c) == (Clock.check c)) && (decide (((Clock.access c key).1) = ((Clock.touch c key).1)))) && (((Clock.access c key).2.1) == ((Clock.touch c key).2.1))) && (((Clock.access c key).2.2) == ((Clock.touch c key).2.2))) && ((Clock.accessErr c key) == (Clock.check c))) && (decide (((Clock.run c l).1) = ((Clock.runGo c 0 l).1)))) && (((Clock.run c l).2) == ((Clock.runGo c 0 l).2))) && ((Clock.runErr c l) == (Lru.trace l))) && (decide ((Clock.clear c) = tc))) && ((Clock.check c) == (Clock.check c)))) rfl) rfl rfl rfl ?_
          refine o_nil ?_
          refine q_then ?_
          refine c_ret ?_
          have hr0 : ((((((((((((Clock.check c) == (Clock.check c)) && (decide (((Clock.access c key).1) = ((Clock.touch c key).1)))) && (((Clock.access c key).2.1) == ((Clock.touch c key).2.1))) && (((Clock.access c key).2.2) == ((Clock.touch c key).2.2))) && ((Clock.accessErr c key) == (Clock.check c))) && (decide (((Clock.run c l).1) = ((Clock.runGo c 0 l).1)))) && (((Clock.run c l).2) == ((Clock.runGo c 0 l).2))) && ((Clock.runErr c l) == (Lru.trace l))) && (decide ((Clock.clear c) = tc))) && ((Clock.check c) == (Clock.check c))) : Bool) = true := by
            rcases Clock.acc_cases c key with ⟨a0, a1, a2⟩ | ⟨a0, a3, a1, a2⟩ | ⟨a0, a3, a1, a2⟩ <;> rcases Clock.run_cases c l with ⟨b0, b1, b2⟩ | ⟨b0, b3, b1, b2⟩ | ⟨b0, b3, b1, b2⟩ <;> first | (exfalso; omega) | (rw [a1, a2, b1, b2]; first | (rw [Clock.clear_bad a0]; simp [Clock.zero]) | (rw [Clock.clear_ok a0, Clock.turn_eq hI (by omega)]; first | (simp [Clock.zero, a0]; done) | simp [Clock.zero, a0, b3]))
          refine q_end0 (v := .bool (((((((((((Clock.check c) == (Clock.check c)) && (decide (((Clock.access c key).1) = ((Clock.touch c key).1)))) && (((Clock.access c key).2.1) == ((Clock.touch c key).2.1))) && (((Clock.access c key).2.2) == ((Clock.touch c key).2.2))) && ((Clock.accessErr c key) == (Clock.check c))) && (decide (((Clock.run c l).1) = ((Clock.runGo c 0 l).1)))) && (((Clock.run c l).2) == ((Clock.runGo c 0 l).2))) && ((Clock.runErr c l) == (Lru.trace l))) && (decide ((Clock.clear c) = tc))) && ((Clock.check c) == (Clock.check c)))) (rt1 rfl (r_tmp rfl)) (i := 13) rfl ?_
          exact (by have hcc := congrArg (fun (y0 : Bool) => (.bool y0 : Value)) hr0; exact hcc)
      · simp only [beq_eq_false_iff_ne, ne_eq] at hc56
        refine c_skip ?_
        refine q_then ?_
        refine c_seq ?_
        refine c_held hmix [own tFrame S52 a54 c55 (((Clock.touch c key).1).frames), box B18 [.int .i64 0, .int .i64 0, .slice none 0 0] 59, box B17 [.int .i64 (((Clock.touch c key).1).room), .int .i64 (((Clock.touch c key).1).hand), .slice a54 (((Clock.touch c key).1).frames).length c55] 59, box B16 [.int .i64 ((Clock.clear c).room), .int .i64 ((Clock.clear c).hand), .slice a14 ((Clock.clear c).frames).length c15] 59, own tFrame S12 a14 c15 ((Clock.clear c).frames), box B11 [.int .i64 (((Clock.run c l).1).room), .int .i64 (((Clock.run c l).1).hand), .slice a9 (((Clock.run c l).1).frames).length c10] 59, own tFrame S7 a9 c10 (((Clock.run c l).1).frames), box B6 [.int .i64 (((Clock.access c key).1).room), .int .i64 (((Clock.access c key).1).hand), .slice a4 (((Clock.access c key).1).frames).length c5] 59, own tFrame S2 a4 c5 (((Clock.access c key).1).frames), box B1 [.int .i64 c.room, .int .i64 c.hand, .slice ac_0 c.frames.length cc_0] 59, base w0] rfl rfl ?_
        refine h_take (i := 0) (ls := #[true, false, false, false, false, false, false, false, false]) rfl (by kernel_rfl) (by kernel_rfl) (by kernel_rfl) (fun _ _ _ h => h) (p_fieldAddr (B := B1) (j := 0) (j' := 0) rfl fo59_0 rfl) rfl rfl rfl (fun _ hw => HeapIs.drop hw (List.Sublist.cons_cons _ (List.Sublist.cons _ (List.Sublist.cons_cons _ (List.Sublist.cons_cons _ (List.Sublist.cons_cons _ (List.Sublist.cons_cons _ (List.Sublist.cons_cons _ (List.Sublist.cons_cons _ (List.Sublist.cons_cons _ (List.Sublist.cons_cons _ (List.Sublist.cons_cons _ (List.Sublist.cons_cons _ (List.Sublist.slnil)))))))))))))) rfl ?_
        refine h_take (i := 1) (ls := #[true, true, false, false, false, false, false, false, false]) rfl (by kernel_rfl) (by kernel_rfl) (by kernel_rfl) (fun _ _ _ h => h) (p_load (i := 9) (v := .int .i64 c.room) rfl rfl sh3 rfl) rfl rfl rfl (fun _ hw => HeapIs.drop hw (List.Sublist.cons_cons _ (List.Sublist.cons _ (List.Sublist.cons_cons _ (List.Sublist.cons_cons _ (List.Sublist.cons_cons _ (List.Sublist.cons_cons _ (List.Sublist.cons_cons _ (List.Sublist.cons_cons _ (List.Sublist.cons_cons _ (List.Sublist.cons_cons _ (List.Sublist.cons_cons _ (List.Sublist.cons_cons _ (List.Sublist.slnil)))))))))))))) rfl ?_
        refine h_take (i := 2) (ls := #[true, true, true, false, false, false, false, false, false]) rfl (by kernel_rfl) (by kernel_rfl) (by kernel_rfl) (fun _ _ _ h => h) (p_fieldAddr (B := B1) (j := 0) (j' := 1) rfl fo59_1 rfl) rfl rfl rfl (fun _ hw => HeapIs.drop hw (List.Sublist.cons_cons _ (List.Sublist.cons _ (List.Sublist.cons_cons _ (List.Sublist.cons_cons _ (List.Sublist.cons_cons _ (List.Sublist.cons_cons _ (List.Sublist.cons_cons _ (List.Sublist.cons_cons _ (List.Sublist.cons_cons _ (List.Sublist.cons_cons _ (List.Sublist.cons_cons _ (List.Sublist.cons_cons _ (List.Sublist.slnil)))))))))))))) rfl ?_
        refine h_take (i := 3) (ls := #[true, true, true, true, false, false, false, false, false]) rfl (by kernel_rfl) (by kernel_rfl) (by kernel_rfl) (fun _ _ _ h => h) (p_load (i := 9) (v := .int .i64 c.hand) rfl rfl sh3 rfl) rfl rfl rfl (fun _ hw => HeapIs.drop hw (List.Sublist.cons_cons _ (List.Sublist.cons _ (List.Sublist.cons_cons _ (List.Sublist.cons_cons _ (List.Sublist.cons_cons _ (List.Sublist.cons_cons _ (List.Sublist.cons_cons _ (List.Sublist.cons_cons _ (List.Sublist.cons_cons _ (List.Sublist.cons_cons _ (List.Sublist.cons_cons _ (List.Sublist.cons_cons _ (List.Sublist.slnil)))))))))))))) rfl ?_
        refine h_take (i := 4) (ls := #[true, true, true, true, true, false, false, false, false]) rfl (by kernel_rfl) (by kernel_rfl) (by kernel_rfl) (fun _ _ _ h => h) (p_fieldAddr (B := B1) (j := 0) (j' := 2) rfl fo59_2 rfl) rfl rfl rfl (fun _ hw => HeapIs.drop hw (List.Sublist.cons_cons _ (List.Sublist.cons _ (List.Sublist.cons_cons _ (List.Sublist.cons_cons _ (List.Sublist.cons_cons _ (List.Sublist.cons_cons _ (List.Sublist.cons_cons _ (List.Sublist.cons_cons _ (List.Sublist.cons_cons _ (List.Sublist.cons_cons _ (List.Sublist.cons_cons _ (List.Sublist.cons_cons _ (List.Sublist.slnil)))))))))))))) rfl ?_
        refine h_take (i := 5) (ls := #[true, true, true, true, true, true, false, false, false]) rfl (by kernel_rfl) (by kernel_rfl) (by kernel_rfl) (fun _ _ _ h => h) (p_load (i := 9) (v := .slice ac_0 c.frames.length cc_0) rfl rfl sh57 rfl) rfl rfl rfl (fun _ hw => HeapIs.drop hw (List.Sublist.cons_cons _ (List.Sublist.cons _ (List.Sublist.cons_cons _ (List.Sublist.cons_cons _ (List.Sublist.cons_cons _ (List.Sublist.cons_cons _ (List.Sublist.cons_cons _ (List.Sublist.cons_cons _ (List.Sublist.cons_cons _ (List.Sublist.cons_cons _ (List.Sublist.cons_cons _ (List.Sublist.cons_cons _ (List.Sublist.slnil)))))))))))))) rfl ?_
        refine h_one (i := 6) (ls := #[true, true, true, true, true, true, true, false, false]) (by kernel_rfl) rfl rfl ?_
        refine o_callM rfl (framesCopy_ok c.frames ac_0 cc_0 (by first | assumption | omega)) hf43 (fun w hw => (rd_base (i := 11) rfl hc_0) w hw) rfl (fun _ _ _ _ ha hA => SlO.agree ha hA) ?_
        rintro ⟨a73_6, c73_6⟩ S73_6
        refine o_nil ?_
        refine h_next (fun _ hw => HeapIs.drop hw (List.Sublist.cons _ (List.Sublist.cons_cons _ (List.Sublist.cons _ (List.Sublist.cons_cons _ (List.Sublist.cons_cons _ (List.Sublist.cons_cons _ (List.Sublist.cons_cons _ (List.Sublist.cons_cons _ (List.Sublist.cons_cons _ (List.Sublist.cons_cons _ (List.Sublist.cons_cons _ (List.Sublist.cons_cons _ (List.Sublist.cons_cons _ (List.Sublist.slnil))))))))))))))) ?_
        refine h_take (i := 7) (ls := #[true, true, true, true, true, true, true, true, false]) rfl (by kernel_rfl) (by kernel_rfl) (by kernel_rfl) (fun _ _ _ h => h) (p_build (cells := [.int .i64 c.room, .int .i64 c.hand, .slice a73_6 c.frames.length c73_6]) fp59 ze59 rfl rfl) rfl rfl rfl (fun _ hw => HeapIs.drop hw (List.Sublist.cons _ (List.Sublist.cons_cons _ (List.Sublist.cons _ (List.Sublist.cons_cons _ (List.Sublist.cons_cons _ (List.Sublist.cons_cons _ (List.Sublist.cons_cons _ (List.Sublist.cons_cons _ (List.Sublist.cons_cons _ (List.Sublist.cons_cons _ (List.Sublist.cons_cons _ (List.Sublist.cons_cons _ (List.Sublist.cons_cons _ (List.Sublist.slnil))))))))))))))) rfl ?_
        refine h_one (i := 8) (ls := #[true, true, true, true, true, true, true, true, true]) (by kernel_rfl) rfl rfl ?_
        refine o_storeN (i := 2) (vs := [.int .i64 c.room, .int .i64 c.hand, .slice a73_6 c.frames.length c73_6]) (cs' := [.int .i64 c.room, .int .i64 c.hand, .slice a73_6 c.frames.length c73_6]) rfl rfl rfl sz59 rfl rfl rfl rfl ?_
        refine o_nil ?_
        refine h_next (fun _ hw => HeapIs.drop hw (List.Sublist.cons _ (List.Sublist.cons_cons _ (List.Sublist.cons _ (List.Sublist.cons_cons _ (List.Sublist.cons_cons _ (List.Sublist.cons_cons _ (List.Sublist.cons_cons _ (List.Sublist.cons_cons _ (List.Sublist.cons_cons _ (List.Sublist.cons_cons _ (List.Sublist.cons_cons _ (List.Sublist.cons_cons _ (List.Sublist.cons_cons _ (List.Sublist.slnil))))))))))))))) ?_
        refine h_done (by kernel_rfl) ?_
        refine q_then ?_
        refine c_seq ?_
        refine c_region ?_
        refine o_pure (p_assign (v := .int .i64 0) rfl) rfl rfl rfl ?_
        refine o_nil ?_
        refine q_then ?_
        refine c_block ?_
        refine c_loop (St := Nat × DClock × Option Addr × Nat × (Nat → Prop))
          (fun ⟨i, tc, atc_0, ctc_0, Stc_0⟩ => [(3, .pointer (some ⟨B1, 0, none⟩)), (7, .pointer (some ⟨B6, 0, none⟩)), (8, .bool ((Clock.access c key).2.1)), (9, .int .i64 ((Clock.access c key).2.2)), (10, .int .i64 (Clock.accessErr c key)), (11, .pointer (some ⟨B11, 0, none⟩)), (12, .int .i64 ((Clock.run c l).2)), (13, .int .i64 (Clock.runErr c l)), (14, .pointer (some ⟨B16, 0, none⟩)), (15, .int .i64 (Clock.check c)), (16, .int .i64 (Clock.check c)), (17, .int .i64 (Clock.check c)), (18, .int .i64 (Lru.trace l)), (19, .pointer (some ⟨B17, 0, none⟩)), (20, .pointer (some ⟨B18, 0, none⟩)), (21, .pointer (some ⟨B19, 0, none⟩)), (22, .bool ((Clock.touch c key).2.1)), (23, .int .i64 ((Clock.touch c key).2.2)), (24, .int .i64 0), (25, .int .i64 (i : Int))])
          (fun ⟨i, tc, atc_0, ctc_0, Stc_0⟩ => [own tFrame Stc_0 atc_0 ctc_0 tc.frames, own tFrame S52 a54 c55 (((Clock.touch c key).1).frames), box B19 [.int .i64 tc.room, .int .i64 tc.hand, .slice atc_0 tc.frames.length ctc_0] 59, box B18 [.int .i64 0, .int .i64 0, .slice none 0 0] 59, box B17 [.int .i64 (((Clock.touch c key).1).room), .int .i64 (((Clock.touch c key).1).hand), .slice a54 (((Clock.touch c key).1).frames).length c55] 59, box B16 [.int .i64 ((Clock.clear c).room), .int .i64 ((Clock.clear c).hand), .slice a14 ((Clock.clear c).frames).length c15] 59, own tFrame S12 a14 c15 ((Clock.clear c).frames), box B11 [.int .i64 (((Clock.run c l).1).room), .int .i64 (((Clock.run c l).1).hand), .slice a9 (((Clock.run c l).1).frames).length c10] 59, own tFrame S7 a9 c10 (((Clock.run c l).1).frames), box B6 [.int .i64 (((Clock.access c key).1).room), .int .i64 (((Clock.access c key).1).hand), .slice a4 (((Clock.access c key).1).frames).length c5] 59, own tFrame S2 a4 c5 (((Clock.access c key).1).frames), box B1 [.int .i64 c.room, .int .i64 c.hand, .slice ac_0 c.frames.length cc_0] 59, base w0])
          (fun ⟨i, tc, atc_0, ctc_0, Stc_0⟩ => tc.room = c.room ∧ tc.hand = c.hand ∧ Clock.UInv c.frames tc.frames i)
          (fun ⟨i, tc, atc_0, ctc_0, Stc_0⟩ => c.frames.length - i)
          (0, c, a73_6, c73_6, S73_6) ?_ (Sub.cons rfl (Sub.cons rfl (Sub.cons rfl (Sub.cons rfl (Sub.cons rfl (Sub.cons rfl (Sub.cons rfl (Sub.cons rfl (Sub.cons rfl (Sub.cons rfl (Sub.cons rfl (Sub.cons rfl (Sub.cons rfl (Sub.cons rfl (Sub.cons rfl (Sub.cons rfl (Sub.cons rfl (Sub.cons rfl (Sub.cons rfl (Sub.cons rfl (Sub.nil _))))))))))))))))))))) (fun _ hw => hw) ?_
        · exact ⟨rfl, rfl, Clock.UInv.start _⟩
        rintro ⟨i, tc, atc_0, ctc_0, Stc_0⟩ hI K hK74
        have hul := hI.2.2.len
        show SC Try.prog 147 w0 _ _ [(3, .pointer (some ⟨B1, 0, none⟩)), (7, .pointer (some ⟨B6, 0, none⟩)), (8, .bool ((Clock.access c key).2.1)), (9, .int .i64 ((Clock.access c key).2.2)), (10, .int .i64 (Clock.accessErr c key)), (11, .pointer (some ⟨B11, 0, none⟩)), (12, .int .i64 ((Clock.run c l).2)), (13, .int .i64 (Clock.runErr c l)), (14, .pointer (some ⟨B16, 0, none⟩)), (15, .int .i64 (Clock.check c)), (16, .int .i64 (Clock.check c)), (17, .int .i64 (Clock.check c)), (18, .int .i64 (Lru.trace l)), (19, .pointer (some ⟨B17, 0, none⟩)), (20, .pointer (some ⟨B18, 0, none⟩)), (21, .pointer (some ⟨B19, 0, none⟩)), (22, .bool ((Clock.touch c key).2.1)), (23, .int .i64 ((Clock.touch c key).2.2)), (24, .int .i64 0), (25, .int .i64 (i : Int))] [own tFrame Stc_0 atc_0 ctc_0 tc.frames, own tFrame S52 a54 c55 (((Clock.touch c key).1).frames), box B19 [.int .i64 tc.room, .int .i64 tc.hand, .slice atc_0 tc.frames.length ctc_0] 59, box B18 [.int .i64 0, .int .i64 0, .slice none 0 0] 59, box B17 [.int .i64 (((Clock.touch c key).1).room), .int .i64 (((Clock.touch c key).1).hand), .slice a54 (((Clock.touch c key).1).frames).length c55] 59, box B16 [.int .i64 ((Clock.clear c).room), .int .i64 ((Clock.clear c).hand), .slice a14 ((Clock.clear c).frames).length c15] 59, own tFrame S12 a14 c15 ((Clock.clear c).frames), box B11 [.int .i64 (((Clock.run c l).1).room), .int .i64 (((Clock.run c l).1).hand), .slice a9 (((Clock.run c l).1).frames).length c10] 59, own tFrame S7 a9 c10 (((Clock.run c l).1).frames), box B6 [.int .i64 (((Clock.access c key).1).room), .int .i64 (((Clock.access c key).1).hand), .slice a4 (((Clock.access c key).1).frames).length c5] 59, own tFrame S2 a4 c5 (((Clock.access c key).1).frames), box B1 [.int .i64 c.room, .int .i64 c.hand, .slice ac_0 c.frames.length cc_0] 59, base w0]
        refine c_seq ?_
        refine c_seq ?_
        refine c_region ?_
        refine o_pure (p_move (v := .int .i64 (i : Int)) rfl) rfl rfl rfl ?_
        refine o_pure (p_fieldAddr (B := B19) (j := 0) (j' := 2) rfl fo59_2 rfl) rfl rfl rfl ?_
        refine o_pure (p_load (i := 2) (v := .slice atc_0 tc.frames.length ctc_0) rfl rfl sh57 rfl) rfl rfl rfl ?_
        refine o_pure (p_len_slice (len := tc.frames.length) rfl rfl Try.underlying57) rfl rfl rfl ?_
        refine o_pure (p_lt (p := (i : Int)) (q := (tc.frames.length : Int)) rfl rfl) rfl rfl rfl ?_
        refine o_nil ?_
        refine q_then ?_
        refine c_cond (b := decide ((i : Int) < (tc.frames.length : Int))) rfl (fun hc75 => ?_) (fun hc75 => ?_)
        · simp only [decide_eq_true_eq] at hc75
          refine c_skip ?_
          refine q_then ?_
          refine c_seq ?_
          refine c_block ?_
          refine c_region ?_
          refine o_pure (p_fieldAddr (B := B19) (j := 0) (j' := 2) rfl fo59_2 rfl) rfl rfl rfl ?_
          refine o_pure (p_load (i := 2) (v := .slice atc_0 tc.frames.length ctc_0) rfl rfl sh57 rfl) rfl rfl rfl ?_
          refine o_pure (p_move (v := .int .i64 (i : Int)) rfl) rfl rfl rfl ?_
          refine o_pure (p_indexAddr (L := tc.frames) (T := tFrame) (i := (i : Int)) rfl rfl (rd_own (i := 0) rfl) Try.underlying57 sz73 (by omega) (by omega)) rfl rfl rfl ?_
          refine o_pure (p_fieldAddrE rfl fo73_1) rfl rfl rfl ?_
          refine o_storeF (j := 1) (i := 0) (T := tFrame) (idx := i) (v := .bool false) (vs := [.bool false]) (z := (⟨(tc.frames[i]).key, false⟩ : DFrame)) (F' := [(3, .pointer (some ⟨B1, 0, none⟩)), (7, .pointer (some ⟨B6, 0, none⟩)), (8, .bool ((Clock.access c key).2.1)), (9, .int .i64 ((Clock.access c key).2.2)), (10, .int .i64 (Clock.accessErr c key)), (11, .pointer (some ⟨B11, 0, none⟩)), (12, .int .i64 ((Clock.run c l).2)), (13, .int .i64 (Clock.runErr c l)), (14, .pointer (some ⟨B16, 0, none⟩)), (15, .int .i64 (Clock.check c)), (16, .int .i64 (Clock.check c)), (17, .int .i64 (Clock.check c)), (18, .int .i64 (Lru.trace l)), (19, .pointer (some ⟨B17, 0, none⟩)), (20, .pointer (some ⟨B18, 0, none⟩)), (21, .pointer (some ⟨B19, 0, none⟩)), (22, .bool ((Clock.touch c key).2.1)), (23, .int .i64 ((Clock.touch c key).2.2)), (24, .int .i64 0), (25, .int .i64 (i : Int))]) rfl rfl rfl rfl (by first | assumption | omega | (simp only [List.length_set]; omega)) sz4 rfl rfl rfl rfl (Sub.cons rfl (Sub.cons rfl (Sub.cons rfl (Sub.cons rfl (Sub.cons rfl (Sub.cons rfl (Sub.cons rfl (Sub.cons rfl (Sub.cons rfl (Sub.cons rfl (Sub.cons rfl (Sub.cons rfl (Sub.cons rfl (Sub.cons rfl (Sub.cons rfl (Sub.cons rfl (Sub.cons rfl (Sub.cons rfl (Sub.cons rfl (Sub.cons rfl (Sub.nil _))))))))))))))))))))) ?_
          refine o_asH (H := [own tFrame Stc_0 atc_0 ctc_0 (tc.frames.set i (⟨(tc.frames[i]).key, false⟩ : DFrame)), own tFrame S52 a54 c55 (((Clock.touch c key).1).frames), box B19 [.int .i64 tc.room, .int .i64 tc.hand, .slice atc_0 tc.frames.length ctc_0] 59, box B18 [.int .i64 0, .int .i64 0, .slice none 0 0] 59, box B17 [.int .i64 (((Clock.touch c key).1).room), .int .i64 (((Clock.touch c key).1).hand), .slice a54 (((Clock.touch c key).1).frames).length c55] 59, box B16 [.int .i64 ((Clock.clear c).room), .int .i64 ((Clock.clear c).hand), .slice a14 ((Clock.clear c).frames).length c15] 59, own tFrame S12 a14 c15 ((Clock.clear c).frames), box B11 [.int .i64 (((Clock.run c l).1).room), .int .i64 (((Clock.run c l).1).hand), .slice a9 (((Clock.run c l).1).frames).length c10] 59, own tFrame S7 a9 c10 (((Clock.run c l).1).frames), box B6 [.int .i64 (((Clock.access c key).1).room), .int .i64 (((Clock.access c key).1).hand), .slice a4 (((Clock.access c key).1).frames).length c5] 59, own tFrame S2 a4 c5 (((Clock.access c key).1).frames), box B1 [.int .i64 c.room, .int .i64 c.hand, .slice ac_0 c.frames.length cc_0] 59, base w0]) (H' := [own tFrame Stc_0 atc_0 ctc_0 (tc.frames.set i (⟨(tc.frames[i]).key, false⟩ : DFrame)), own tFrame S52 a54 c55 (((Clock.touch c key).1).frames), box B19 [.int .i64 tc.room, .int .i64 tc.hand, .slice atc_0 (tc.frames.set i (⟨(tc.frames[i]).key, false⟩ : DFrame)).length ctc_0] 59, box B18 [.int .i64 0, .int .i64 0, .slice none 0 0] 59, box B17 [.int .i64 (((Clock.touch c key).1).room), .int .i64 (((Clock.touch c key).1).hand), .slice a54 (((Clock.touch c key).1).frames).length c55] 59, box B16 [.int .i64 ((Clock.clear c).room), .int .i64 ((Clock.clear c).hand), .slice a14 ((Clock.clear c).frames).length c15] 59, own tFrame S12 a14 c15 ((Clock.clear c).frames), box B11 [.int .i64 (((Clock.run c l).1).room), .int .i64 (((Clock.run c l).1).hand), .slice a9 (((Clock.run c l).1).frames).length c10] 59, own tFrame S7 a9 c10 (((Clock.run c l).1).frames), box B6 [.int .i64 (((Clock.access c key).1).room), .int .i64 (((Clock.access c key).1).hand), .slice a4 (((Clock.access c key).1).frames).length c5] 59, own tFrame S2 a4 c5 (((Clock.access c key).1).frames), box B1 [.int .i64 c.room, .int .i64 c.hand, .slice ac_0 c.frames.length cc_0] 59, base w0]) (by simp only [List.length_set]) ?_
          refine o_nil ?_
          refine q_block_normal (q_then ?_)
          refine c_region ?_
          refine o_pure (p_move (v := .int .i64 (i : Int)) rfl) rfl rfl rfl ?_
          refine o_pure (p_addb (p := (i : Int)) (q := 1) rfl rfl (by omega)) rfl rfl rfl ?_
          refine o_pure (p_assign (v := .int .i64 ((i : Int) + 1)) rfl) rfl rfl rfl ?_
          refine o_nil ?_
          refine q_round hK74 (i + 1, (⟨tc.room, tc.hand, (tc.frames.set i (⟨(tc.frames[i]).key, false⟩ : DFrame))⟩ : DClock), atc_0, ctc_0, Stc_0) ?_ ?_ ?_ ?_
          · clear hK74
            exact ⟨hI.1, hI.2.1, hI.2.2.next (by omega) (by omega)⟩
          · (try dsimp only); omega
          · exact Sub.cons rfl (Sub.cons rfl (Sub.cons rfl (Sub.cons rfl (Sub.cons rfl (Sub.cons rfl (Sub.cons rfl (Sub.cons rfl (Sub.cons rfl (Sub.cons rfl (Sub.cons rfl (Sub.cons rfl (Sub.cons rfl (Sub.cons rfl (Sub.cons rfl (Sub.cons rfl (Sub.cons rfl (Sub.cons rfl (Sub.cons rfl (Sub.cons rfl (Sub.nil _))))))))))))))))))))
          · exact fun _ hw => HeapIs.pick hw [0, 1, 2, 3, 4, 5, 6, 7, 8, 9, 10, 11, 12] (by decide) rfl
        · simp only [decide_eq_false_iff_not, Int.not_lt] at hc75
          refine c_exit ?_
          refine q_then_exit (q_then_exit (q_block_exit (q_then ?_)))
          refine c_seq ?_
          refine c_region ?_
          refine o_call0 (v := .bool true) rfl (clockBegun_ok ) hf44 (fun _ _ => trivial) rfl ?_
          refine o_pure (p_move (v := .bool true) rfl) rfl rfl rfl ?_
          refine o_unguard 96 rfl rfl ?_
          refine o_pure (p_load_agg (i := 11) (vs := [.int .i64 c.room, .int .i64 c.hand, .slice ac_0 c.frames.length cc_0]) rfl rfl sh59 rfl rfl) rfl rfl rfl ?_
          refine o_unguard 96 rfl rfl ?_
          refine o_call0 (v := .int .i64 (Clock.check c)) rfl (ccheck_ok c ac_0 cc_0) hf45 (fun w hw => (rd_base (i := 12) rfl hc_0) w hw) rfl ?_
          refine o_unguard 96 rfl rfl ?_
          refine o_pure (p_move (v := .int .i64 (Clock.check c)) rfl) rfl rfl rfl ?_
          refine o_unguard 96 rfl rfl ?_
          refine o_pure (p_eq (p := (Clock.check c)) (q := (Clock.check c)) rfl rfl) rfl rfl rfl ?_
          refine o_pure (p_pick_true (u := .bool ((Clock.check c) == (Clock.check c))) rfl rfl) rfl rfl rfl ?_
          refine o_pure (p_move (v := .bool ((Clock.check c) == (Clock.check c))) rfl) rfl rfl rfl ?_
          refine o_and (p := 106) 4 (decide (((Clock.access c key).1) = ((Clock.touch c key).1))) ?_ ?_ ?_
          · intro hb76 hk
            simp only [beq_iff_eq] at hb76
            refine o_unguard 102 rfl rfl ?_
            refine o_pure (p_load_agg (i := 9) (vs := [.int .i64 (((Clock.access c key).1).room), .int .i64 (((Clock.access c key).1).hand), .slice a4 (((Clock.access c key).1).frames).length c5]) rfl rfl sh59 rfl rfl) rfl rfl rfl ?_
            refine o_unguard 102 rfl rfl ?_
            refine o_pure (p_load_agg (i := 4) (vs := [.int .i64 (((Clock.touch c key).1).room), .int .i64 (((Clock.touch c key).1).hand), .slice a54 (((Clock.touch c key).1).frames).length c55]) rfl rfl sh59 rfl rfl) rfl rfl rfl ?_
            refine o_unguard 102 rfl rfl ?_
            refine o_call0 (v := .bool (decide (((Clock.access c key).1) = ((Clock.touch c key).1)))) rfl (sameClock_ok ((Clock.access c key).1) a4 c5 ((Clock.touch c key).1) a54 c55) hf46 (fun w hw => ⟨(rd_own (i := 10) rfl) w hw, (rd_own (i := 1) rfl) w hw⟩) rfl ?_
            refine o_pure (p_pick_true (u := .bool (decide (((Clock.access c key).1) = ((Clock.touch c key).1)))) rfl rfl) rfl rfl rfl ?_
            exact o_sub (Sub.cons rfl (Sub.skip rfl (Sub.skip rfl (Sub.skip rfl (Sub.skip rfl (Sub.skip rfl (Sub.refl _))))))) hk
          · intro hb76 hk
            refine o_guard_no rfl 102 rfl rfl rfl rfl rfl ?_
            refine o_guard_no rfl 102 rfl rfl rfl rfl rfl ?_
            refine o_guard_no rfl 102 rfl rfl rfl rfl rfl ?_
            refine o_pure (p_pick_false (v := .bool false) rfl rfl) rfl rfl rfl ?_
            exact o_sub (Sub.cons rfl (Sub.skip rfl (Sub.skip rfl (Sub.skip rfl (Sub.skip rfl (Sub.skip rfl (Sub.refl _))))))) hk
          refine o_pure (p_move (v := .bool (((Clock.check c) == (Clock.check c)) && (decide (((Clock.access c key).1) = ((Clock.touch c key).1))))) rfl) rfl rfl rfl ?_
          refine o_and (p := 111) 4 (((Clock.access c key).2.1) == ((Clock.touch c key).2.1)) ?_ ?_ ?_
          · intro hb77 hk
            simp only [Bool.and_eq_true, beq_iff_eq, decide_eq_true_eq] at hb77
            refine o_unguard 107 rfl rfl ?_
            refine o_pure (p_move (v := .bool ((Clock.access c key).2.1)) rfl) rfl rfl rfl ?_
            refine o_unguard 107 rfl rfl ?_
            refine o_pure (p_move (v := .bool ((Clock.touch c key).2.1)) rfl) rfl rfl rfl ?_
            refine o_unguard 107 rfl rfl ?_
            refine o_pure (p_eqBool (b := ((Clock.access c key).2.1)) (c := ((Clock.touch c key).2.1)) rfl rfl Try.underlying4) rfl rfl rfl ?_
            refine o_pure (p_pick_true (u := .bool (((Clock.access c key).2.1) == ((Clock.touch c key).2.1))) rfl rfl) rfl rfl rfl ?_
            exact o_sub (Sub.cons rfl (Sub.skip rfl (Sub.skip rfl (Sub.skip rfl (Sub.skip rfl (Sub.skip rfl (Sub.refl _))))))) hk
          · intro hb77 hk
            refine o_guard_no rfl 107 rfl rfl rfl rfl rfl ?_
            refine o_guard_no rfl 107 rfl rfl rfl rfl rfl ?_
            refine o_guard_no rfl 107 rfl rfl rfl rfl rfl ?_
            refine o_pure (p_pick_false (v := .bool false) rfl rfl) rfl rfl rfl ?_
            exact o_sub (Sub.cons rfl (Sub.skip rfl (Sub.skip rfl (Sub.skip rfl (Sub.skip rfl (Sub.skip rfl (Sub.refl _))))))) hk
          refine o_pure (p_move (v := .bool ((((Clock.check c) == (Clock.check c)) && (decide (((Clock.access c key).1) = ((Clock.touch c key).1)))) && (((Clock.access c key).2.1) == ((Clock.touch c key).2.1)))) rfl) rfl rfl rfl ?_
          refine o_and (p := 116) 4 (((Clock.access c key).2.2) == ((Clock.touch c key).2.2)) ?_ ?_ ?_
          · intro hb78 hk
            simp only [Bool.and_eq_true, beq_iff_eq, decide_eq_true_eq] at hb78
            refine o_unguard 112 rfl rfl ?_
            refine o_pure (p_move (v := .int .i64 ((Clock.access c key).2.2)) rfl) rfl rfl rfl ?_
            refine o_unguard 112 rfl rfl ?_
            refine o_pure (p_move (v := .int .i64 ((Clock.touch c key).2.2)) rfl) rfl rfl rfl ?_
            refine o_unguard 112 rfl rfl ?_
            refine o_pure (p_eq (p := ((Clock.access c key).2.2)) (q := ((Clock.touch c key).2.2)) rfl rfl) rfl rfl rfl ?_
            refine o_pure (p_pick_true (u := .bool (((Clock.access c key).2.2) == ((Clock.touch c key).2.2))) rfl rfl) rfl rfl rfl ?_
            exact o_sub (Sub.cons rfl (Sub.skip rfl (Sub.skip rfl (Sub.skip rfl (Sub.skip rfl (Sub.skip rfl (Sub.refl _))))))) hk
          · intro hb78 hk
            refine o_guard_no rfl 112 rfl rfl rfl rfl rfl ?_
            refine o_guard_no rfl 112 rfl rfl rfl rfl rfl ?_
            refine o_guard_no rfl 112 rfl rfl rfl rfl rfl ?_
            refine o_pure (p_pick_false (v := .bool false) rfl rfl) rfl rfl rfl ?_
            exact o_sub (Sub.cons rfl (Sub.skip rfl (Sub.skip rfl (Sub.skip rfl (Sub.skip rfl (Sub.skip rfl (Sub.refl _))))))) hk
          refine o_pure (p_move (v := .bool (((((Clock.check c) == (Clock.check c)) && (decide (((Clock.access c key).1) = ((Clock.touch c key).1)))) && (((Clock.access c key).2.1) == ((Clock.touch c key).2.1))) && (((Clock.access c key).2.2) == ((Clock.touch c key).2.2)))) rfl) rfl rfl rfl ?_
          refine o_and (p := 121) 4 ((Clock.accessErr c key) == (Clock.check c)) ?_ ?_ ?_
          · intro hb79 hk
            simp only [Bool.and_eq_true, beq_iff_eq, decide_eq_true_eq] at hb79
            refine o_unguard 117 rfl rfl ?_
            refine o_pure (p_move (v := .int .i64 (Clock.accessErr c key)) rfl) rfl rfl rfl ?_
            refine o_unguard 117 rfl rfl ?_
            refine o_pure (p_move (v := .int .i64 (Clock.check c)) rfl) rfl rfl rfl ?_
            refine o_unguard 117 rfl rfl ?_
            refine o_pure (p_eq (p := (Clock.accessErr c key)) (q := (Clock.check c)) rfl rfl) rfl rfl rfl ?_
            refine o_pure (p_pick_true (u := .bool ((Clock.accessErr c key) == (Clock.check c))) rfl rfl) rfl rfl rfl ?_
            exact o_sub (Sub.cons rfl (Sub.skip rfl (Sub.skip rfl (Sub.skip rfl (Sub.skip rfl (Sub.skip rfl (Sub.refl _))))))) hk
          · intro hb79 hk
            refine o_guard_no rfl 117 rfl rfl rfl rfl rfl ?_
            refine o_guard_no rfl 117 rfl rfl rfl rfl rfl ?_
            refine o_guard_no rfl 117 rfl rfl rfl rfl rfl ?_
            refine o_pure (p_pick_false (v := .bool false) rfl rfl) rfl rfl rfl ?_
            exact o_sub (Sub.cons rfl (Sub.skip rfl (Sub.skip rfl (Sub.skip rfl (Sub.skip rfl (Sub.skip rfl (Sub.refl _))))))) hk
          refine o_pure (p_move (v := .bool ((((((Clock.check c) == (Clock.check c)) && (decide (((Clock.access c key).1) = ((Clock.touch c key).1)))) && (((Clock.access c key).2.1) == ((Clock.touch c key).2.1))) && (((Clock.access c key).2.2) == ((Clock.touch c key).2.2))) && ((Clock.accessErr c key) == (Clock.check c)))) rfl) rfl rfl rfl ?_
          refine o_and (p := 126) 4 (decide (((Clock.run c l).1) = (⟨0, 0, []⟩ : DClock))) ?_ ?_ ?_
          · intro hb80 hk
            simp only [Bool.and_eq_true, beq_iff_eq, decide_eq_true_eq] at hb80
            refine o_unguard 122 rfl rfl ?_
            refine o_pure (p_load_agg (i := 7) (vs := [.int .i64 (((Clock.run c l).1).room), .int .i64 (((Clock.run c l).1).hand), .slice a9 (((Clock.run c l).1).frames).length c10]) rfl rfl sh59 rfl rfl) rfl rfl rfl ?_
            refine o_unguard 122 rfl rfl ?_
            refine o_pure (p_load_agg (i := 3) (vs := [.int .i64 0, .int .i64 0, .slice none 0 0]) rfl rfl sh59 rfl rfl) rfl rfl rfl ?_
            refine o_unguard 122 rfl rfl ?_
            refine o_call0 (v := .bool (decide (((Clock.run c l).1) = (⟨0, 0, []⟩ : DClock)))) rfl (sameClock_ok ((Clock.run c l).1) a9 c10 (⟨0, 0, []⟩ : DClock) none 0) hf46 (fun w hw => ⟨(rd_own (i := 8) rfl) w hw, rd_nil w hw⟩) rfl ?_
            refine o_pure (p_pick_true (u := .bool (decide (((Clock.run c l).1) = (⟨0, 0, []⟩ : DClock)))) rfl rfl) rfl rfl rfl ?_
            exact o_sub (Sub.cons rfl (Sub.skip rfl (Sub.skip rfl (Sub.skip rfl (Sub.skip rfl (Sub.skip rfl (Sub.refl _))))))) hk
          · intro hb80 hk
            refine o_guard_no rfl 122 rfl rfl rfl rfl rfl ?_
            refine o_guard_no rfl 122 rfl rfl rfl rfl rfl ?_
            refine o_guard_no rfl 122 rfl rfl rfl rfl rfl ?_
            refine o_pure (p_pick_false (v := .bool false) rfl rfl) rfl rfl rfl ?_
            exact o_sub (Sub.cons rfl (Sub.skip rfl (Sub.skip rfl (Sub.skip rfl (Sub.skip rfl (Sub.skip rfl (Sub.refl _))))))) hk
          refine o_pure (p_move (v := .bool (((((((Clock.check c) == (Clock.check c)) && (decide (((Clock.access c key).1) = ((Clock.touch c key).1)))) && (((Clock.access c key).2.1) == ((Clock.touch c key).2.1))) && (((Clock.access c key).2.2) == ((Clock.touch c key).2.2))) && ((Clock.accessErr c key) == (Clock.check c))) && (decide (((Clock.run c l).1) = (⟨0, 0, []⟩ : DClock))))) rfl) rfl rfl rfl ?_
          refine o_and (p := 131) 4 (((Clock.run c l).2) == 0) ?_ ?_ ?_
          · intro hb81 hk
            simp only [Bool.and_eq_true, beq_iff_eq, decide_eq_true_eq] at hb81
            refine o_unguard 127 rfl rfl ?_
            refine o_pure (p_move (v := .int .i64 ((Clock.run c l).2)) rfl) rfl rfl rfl ?_
            refine o_unguard 127 rfl rfl ?_
            refine o_pure (p_move (v := .int .i64 0) rfl) rfl rfl rfl ?_
            refine o_unguard 127 rfl rfl ?_
            refine o_pure (p_eq (p := ((Clock.run c l).2)) (q := 0) rfl rfl) rfl rfl rfl ?_
            refine o_pure (p_pick_true (u := .bool (((Clock.run c l).2) == 0)) rfl rfl) rfl rfl rfl ?_
            exact o_sub (Sub.cons rfl (Sub.skip rfl (Sub.skip rfl (Sub.skip rfl (Sub.skip rfl (Sub.skip rfl (Sub.refl _))))))) hk
          · intro hb81 hk
            refine o_guard_no rfl 127 rfl rfl rfl rfl rfl ?_
            refine o_guard_no rfl 127 rfl rfl rfl rfl rfl ?_
            refine o_guard_no rfl 127 rfl rfl rfl rfl rfl ?_
            refine o_pure (p_pick_false (v := .bool false) rfl rfl) rfl rfl rfl ?_
            exact o_sub (Sub.cons rfl (Sub.skip rfl (Sub.skip rfl (Sub.skip rfl (Sub.skip rfl (Sub.skip rfl (Sub.refl _))))))) hk
          refine o_pure (p_move (v := .bool ((((((((Clock.check c) == (Clock.check c)) && (decide (((Clock.access c key).1) = ((Clock.touch c key).1)))) && (((Clock.access c key).2.1) == ((Clock.touch c key).2.1))) && (((Clock.access c key).2.2) == ((Clock.touch c key).2.2))) && ((Clock.accessErr c key) == (Clock.check c))) && (decide (((Clock.run c l).1) = (⟨0, 0, []⟩ : DClock)))) && (((Clock.run c l).2) == 0))) rfl) rfl rfl rfl ?_
          refine o_and (p := 136) 4 ((Clock.runErr c l) == (Lru.trace l)) ?_ ?_ ?_
          · intro hb82 hk
            simp only [Bool.and_eq_true, beq_iff_eq, decide_eq_true_eq] at hb82
            refine o_unguard 132 rfl rfl ?_
            refine o_pure (p_move (v := .int .i64 (Clock.runErr c l)) rfl) rfl rfl rfl ?_
            refine o_unguard 132 rfl rfl ?_
            refine o_pure (p_move (v := .int .i64 (Lru.trace l)) rfl) rfl rfl rfl ?_
            refine o_unguard 132 rfl rfl ?_
            refine o_pure (p_eq (p := (Clock.runErr c l)) (q := (Lru.trace l)) rfl rfl) rfl rfl rfl ?_
            refine o_pure (p_pick_true (u := .bool ((Clock.runErr c l) == (Lru.trace l))) rfl rfl) rfl rfl rfl ?_
            exact o_sub (Sub.cons rfl (Sub.skip rfl (Sub.skip rfl (Sub.skip rfl (Sub.skip rfl (Sub.skip rfl (Sub.refl _))))))) hk
          · intro hb82 hk
            refine o_guard_no rfl 132 rfl rfl rfl rfl rfl ?_
            refine o_guard_no rfl 132 rfl rfl rfl rfl rfl ?_
            refine o_guard_no rfl 132 rfl rfl rfl rfl rfl ?_
            refine o_pure (p_pick_false (v := .bool false) rfl rfl) rfl rfl rfl ?_
            exact o_sub (Sub.cons rfl (Sub.skip rfl (Sub.skip rfl (Sub.skip rfl (Sub.skip rfl (Sub.skip rfl (Sub.refl _))))))) hk
          refine o_pure (p_move (v := .bool (((((((((Clock.check c) == (Clock.check c)) && (decide (((Clock.access c key).1) = ((Clock.touch c key).1)))) && (((Clock.access c key).2.1) == ((Clock.touch c key).2.1))) && (((Clock.access c key).2.2) == ((Clock.touch c key).2.2))) && ((Clock.accessErr c key) == (Clock.check c))) && (decide (((Clock.run c l).1) = (⟨0, 0, []⟩ : DClock)))) && (((Clock.run c l).2) == 0)) && ((Clock.runErr c l) == (Lru.trace l)))) rfl) rfl rfl rfl ?_
          refine o_and (p := 141) 4 (decide ((Clock.clear c) = tc)) ?_ ?_ ?_
          · intro hb83 hk
            simp only [Bool.and_eq_true, beq_iff_eq, decide_eq_true_eq] at hb83
            refine o_unguard 137 rfl rfl ?_
            refine o_pure (p_load_agg (i := 5) (vs := [.int .i64 ((Clock.clear c).room), .int .i64 ((Clock.clear c).hand), .slice a14 ((Clock.clear c).frames).length c15]) rfl rfl sh59 rfl rfl) rfl rfl rfl ?_
            refine o_unguard 137 rfl rfl ?_
            refine o_pure (p_load_agg (i := 2) (vs := [.int .i64 tc.room, .int .i64 tc.hand, .slice atc_0 tc.frames.length ctc_0]) rfl rfl sh59 rfl rfl) rfl rfl rfl ?_
            refine o_unguard 137 rfl rfl ?_
            refine o_call0 (v := .bool (decide ((Clock.clear c) = tc))) rfl (sameClock_ok (Clock.clear c) a14 c15 tc atc_0 ctc_0) hf46 (fun w hw => ⟨(rd_own (i := 6) rfl) w hw, (rd_own (i := 0) rfl) w hw⟩) rfl ?_
            refine o_pure (p_pick_true (u := .bool (decide ((Clock.clear c) = tc))) rfl rfl) rfl rfl rfl ?_
            exact o_sub (Sub.cons rfl (Sub.skip rfl (Sub.skip rfl (Sub.skip rfl (Sub.skip rfl (Sub.skip rfl (Sub.refl _))))))) hk
          · intro hb83 hk
            refine o_guard_no rfl 137 rfl rfl rfl rfl rfl ?_
            refine o_guard_no rfl 137 rfl rfl rfl rfl rfl ?_
            refine o_guard_no rfl 137 rfl rfl rfl rfl rfl ?_
            refine o_pure (p_pick_false (v := .bool false) rfl rfl) rfl rfl rfl ?_
            exact o_sub (Sub.cons rfl (Sub.skip rfl (Sub.skip rfl (Sub.skip rfl (Sub.skip rfl (Sub.skip rfl (Sub.refl _))))))) hk
          refine o_pure (p_move (v := .bool ((((((((((Clock.check c) == (Clock.check c)) && (decide (((Clock.access c key).1) = ((Clock.touch c key).1)))) && (((Clock.access c key).2.1) == ((Clock.touch c key).2.1))) && (((Clock.access c key).2.2) == ((Clock.touch c key).2.2))) && ((Clock.accessErr c key) == (Clock.check c))) && (decide (((Clock.run c l).1) = (⟨0, 0, []⟩ : DClock)))) && (((Clock.run c l).2) == 0)) && ((Clock.runErr c l) == (Lru.trace l))) && (decide ((Clock.clear c) = tc)))) rfl) rfl rfl rfl ?_
          refine o_and (p := 146) 4 ((Clock.check c) == (Clock.check c)) ?_ ?_ ?_
          · intro hb84 hk
            simp only [Bool.and_eq_true, beq_iff_eq, decide_eq_true_eq] at hb84
            refine o_unguard 142 rfl rfl ?_
            refine o_pure (p_move (v := .int .i64 (Clock.check c)) rfl) rfl rfl rfl ?_
            refine o_unguard 142 rfl rfl ?_
            refine o_pure (p_move (v := .int .i64 (Clock.check c)) rfl) rfl rfl rfl ?_
            refine o_unguard 142 rfl rfl ?_
            refine o_pure (p_eq (p := (Clock.check c)) (q := (Clock.check c)) rfl rfl) rfl rfl rfl ?_
            refine o_pure (p_pick_true (u := .bool ((Clock.check c) == (Clock.check c))) rfl rfl) rfl rfl rfl ?_
            exact o_sub (Sub.cons rfl (Sub.skip rfl (Sub.skip rfl (Sub.skip rfl (Sub.skip rfl (Sub.skip rfl (Sub.refl _))))))) hk
          · intro hb84 hk
            refine o_guard_no rfl 142 rfl rfl rfl rfl rfl ?_
            refine o_guard_no rfl 142 rfl rfl rfl rfl rfl ?_
            refine o_guard_no rfl 142 rfl rfl rfl rfl rfl ?_
            refine o_pure (p_pick_false (v := .bool false) rfl rfl) rfl rfl rfl ?_
            exact o_sub (Sub.cons rfl (Sub.skip rfl (Sub.skip rfl (Sub.skip rfl (Sub.skip rfl (Sub.skip rfl (Sub.refl _))))))) hk
          refine o_pure (p_assign (v := .bool (((((((((((Clock.check c) == (Clock.check c)) && (decide (((Clock.access c key).1) = ((Clock.touch c key).1)))) && (((Clock.access c key).2.1) == ((Clock.touch c key).2.1))) && (((Clock.access c key).2.2) == ((Clock.touch c key).2.2))) && ((Clock.accessErr c key) == (Clock.check c))) && (decide (((Clock.run c l).1) = (⟨0, 0, []⟩ : DClock)))) && (((Clock.run c l).2) == 0)) && ((Clock.runErr c l) == (Lru.trace l))) && (decide ((Clock.clear c) = tc))) && ((Clock.check c) == (Clock.check c)))) rfl) rfl rfl rfl ?_
          refine o_nil ?_
          refine q_then ?_
          refine c_ret ?_
          have hr0 : ((((((((((((Clock.check c) == (Clock.check c)) && (decide (((Clock.access c key).1) = ((Clock.touch c key).1)))) && (((Clock.access c key).2.1) == ((Clock.touch c key).2.1))) && (((Clock.access c key).2.2) == ((Clock.touch c key).2.2))) && ((Clock.accessErr c key) == (Clock.check c))) && (decide (((Clock.run c l).1) = (⟨0, 0, []⟩ : DClock)))) && (((Clock.run c l).2) == 0)) && ((Clock.runErr c l) == (Lru.trace l))) && (decide ((Clock.clear c) = tc))) && ((Clock.check c) == (Clock.check c))) : Bool) = true := by
            rcases Clock.acc_cases c key with ⟨a0, a1, a2⟩ | ⟨a0, a3, a1, a2⟩ | ⟨a0, a3, a1, a2⟩ <;> rcases Clock.run_cases c l with ⟨b0, b1, b2⟩ | ⟨b0, b3, b1, b2⟩ | ⟨b0, b3, b1, b2⟩ <;> first | (exfalso; omega) | (rw [a1, a2, b1, b2]; first | (rw [Clock.clear_bad a0]; simp [Clock.zero]) | (rw [Clock.clear_ok a0, Clock.turn_eq hI (by omega)]; first | (simp [Clock.zero, a0]; done) | simp [Clock.zero, a0, b3]))
          refine q_end0 (v := .bool (((((((((((Clock.check c) == (Clock.check c)) && (decide (((Clock.access c key).1) = ((Clock.touch c key).1)))) && (((Clock.access c key).2.1) == ((Clock.touch c key).2.1))) && (((Clock.access c key).2.2) == ((Clock.touch c key).2.2))) && ((Clock.accessErr c key) == (Clock.check c))) && (decide (((Clock.run c l).1) = (⟨0, 0, []⟩ : DClock)))) && (((Clock.run c l).2) == 0)) && ((Clock.runErr c l) == (Lru.trace l))) && (decide ((Clock.clear c) = tc))) && ((Clock.check c) == (Clock.check c)))) (rt1 rfl (r_tmp rfl)) (i := 12) rfl ?_
          exact (by have hcc := congrArg (fun (y0 : Bool) => (.bool y0 : Value)) hr0; exact hcc)
  · simp only [beq_eq_false_iff_ne, ne_eq] at hc20
    refine c_skip ?_
    refine q_then ?_
    refine c_seq ?_
    refine c_region ?_
    refine o_call0 (v := .bool true) rfl (clockBegun_ok ) hf44 (fun _ _ => trivial) rfl ?_
    refine o_pure (p_move (v := .bool true) rfl) rfl rfl rfl ?_
    refine o_unguard 96 rfl rfl ?_
    refine o_pure (p_load_agg (i := 9) (vs := [.int .i64 c.room, .int .i64 c.hand, .slice ac_0 c.frames.length cc_0]) rfl rfl sh59 rfl rfl) rfl rfl rfl ?_
    refine o_unguard 96 rfl rfl ?_
    refine o_call0 (v := .int .i64 (Clock.check c)) rfl (ccheck_ok c ac_0 cc_0) hf45 (fun w hw => (rd_base (i := 10) rfl hc_0) w hw) rfl ?_
    refine o_unguard 96 rfl rfl ?_
    refine o_pure (p_move (v := .int .i64 (Clock.check c)) rfl) rfl rfl rfl ?_
    refine o_unguard 96 rfl rfl ?_
    refine o_pure (p_eq (p := (Clock.check c)) (q := (Clock.check c)) rfl rfl) rfl rfl rfl ?_
    refine o_pure (p_pick_true (u := .bool ((Clock.check c) == (Clock.check c))) rfl rfl) rfl rfl rfl ?_
    refine o_pure (p_move (v := .bool ((Clock.check c) == (Clock.check c))) rfl) rfl rfl rfl ?_
    refine o_and (p := 106) 4 (decide (((Clock.access c key).1) = (⟨0, 0, []⟩ : DClock))) ?_ ?_ ?_
    · intro hb85 hk
      simp only [beq_iff_eq] at hb85
      refine o_unguard 102 rfl rfl ?_
      refine o_pure (p_load_agg (i := 7) (vs := [.int .i64 (((Clock.access c key).1).room), .int .i64 (((Clock.access c key).1).hand), .slice a4 (((Clock.access c key).1).frames).length c5]) rfl rfl sh59 rfl rfl) rfl rfl rfl ?_
      refine o_unguard 102 rfl rfl ?_
      refine o_pure (p_load_agg (i := 2) (vs := [.int .i64 0, .int .i64 0, .slice none 0 0]) rfl rfl sh59 rfl rfl) rfl rfl rfl ?_
      refine o_unguard 102 rfl rfl ?_
      refine o_call0 (v := .bool (decide (((Clock.access c key).1) = (⟨0, 0, []⟩ : DClock)))) rfl (sameClock_ok ((Clock.access c key).1) a4 c5 (⟨0, 0, []⟩ : DClock) none 0) hf46 (fun w hw => ⟨(rd_own (i := 8) rfl) w hw, rd_nil w hw⟩) rfl ?_
      refine o_pure (p_pick_true (u := .bool (decide (((Clock.access c key).1) = (⟨0, 0, []⟩ : DClock)))) rfl rfl) rfl rfl rfl ?_
      exact o_sub (Sub.cons rfl (Sub.skip rfl (Sub.skip rfl (Sub.skip rfl (Sub.skip rfl (Sub.skip rfl (Sub.refl _))))))) hk
    · intro hb85 hk
      refine o_guard_no rfl 102 rfl rfl rfl rfl rfl ?_
      refine o_guard_no rfl 102 rfl rfl rfl rfl rfl ?_
      refine o_guard_no rfl 102 rfl rfl rfl rfl rfl ?_
      refine o_pure (p_pick_false (v := .bool false) rfl rfl) rfl rfl rfl ?_
      exact o_sub (Sub.cons rfl (Sub.skip rfl (Sub.skip rfl (Sub.skip rfl (Sub.skip rfl (Sub.skip rfl (Sub.refl _))))))) hk
    refine o_pure (p_move (v := .bool (((Clock.check c) == (Clock.check c)) && (decide (((Clock.access c key).1) = (⟨0, 0, []⟩ : DClock))))) rfl) rfl rfl rfl ?_
    refine o_and (p := 111) 4 (((Clock.access c key).2.1) == false) ?_ ?_ ?_
    · intro hb86 hk
      simp only [Bool.and_eq_true, beq_iff_eq, decide_eq_true_eq] at hb86
      refine o_unguard 107 rfl rfl ?_
      refine o_pure (p_move (v := .bool ((Clock.access c key).2.1)) rfl) rfl rfl rfl ?_
      refine o_unguard 107 rfl rfl ?_
      refine o_pure (p_move (v := .bool false) rfl) rfl rfl rfl ?_
      refine o_unguard 107 rfl rfl ?_
      refine o_pure (p_eqBool (b := ((Clock.access c key).2.1)) (c := false) rfl rfl Try.underlying4) rfl rfl rfl ?_
      refine o_pure (p_pick_true (u := .bool (((Clock.access c key).2.1) == false)) rfl rfl) rfl rfl rfl ?_
      exact o_sub (Sub.cons rfl (Sub.skip rfl (Sub.skip rfl (Sub.skip rfl (Sub.skip rfl (Sub.skip rfl (Sub.refl _))))))) hk
    · intro hb86 hk
      refine o_guard_no rfl 107 rfl rfl rfl rfl rfl ?_
      refine o_guard_no rfl 107 rfl rfl rfl rfl rfl ?_
      refine o_guard_no rfl 107 rfl rfl rfl rfl rfl ?_
      refine o_pure (p_pick_false (v := .bool false) rfl rfl) rfl rfl rfl ?_
      exact o_sub (Sub.cons rfl (Sub.skip rfl (Sub.skip rfl (Sub.skip rfl (Sub.skip rfl (Sub.skip rfl (Sub.refl _))))))) hk
    refine o_pure (p_move (v := .bool ((((Clock.check c) == (Clock.check c)) && (decide (((Clock.access c key).1) = (⟨0, 0, []⟩ : DClock)))) && (((Clock.access c key).2.1) == false))) rfl) rfl rfl rfl ?_
    refine o_and (p := 116) 4 (((Clock.access c key).2.2) == 0) ?_ ?_ ?_
    · intro hb87 hk
      simp only [Bool.and_eq_true, beq_iff_eq, decide_eq_true_eq] at hb87
      refine o_unguard 112 rfl rfl ?_
      refine o_pure (p_move (v := .int .i64 ((Clock.access c key).2.2)) rfl) rfl rfl rfl ?_
      refine o_unguard 112 rfl rfl ?_
      refine o_pure (p_move (v := .int .i64 0) rfl) rfl rfl rfl ?_
      refine o_unguard 112 rfl rfl ?_
      refine o_pure (p_eq (p := ((Clock.access c key).2.2)) (q := 0) rfl rfl) rfl rfl rfl ?_
      refine o_pure (p_pick_true (u := .bool (((Clock.access c key).2.2) == 0)) rfl rfl) rfl rfl rfl ?_
      exact o_sub (Sub.cons rfl (Sub.skip rfl (Sub.skip rfl (Sub.skip rfl (Sub.skip rfl (Sub.skip rfl (Sub.refl _))))))) hk
    · intro hb87 hk
      refine o_guard_no rfl 112 rfl rfl rfl rfl rfl ?_
      refine o_guard_no rfl 112 rfl rfl rfl rfl rfl ?_
      refine o_guard_no rfl 112 rfl rfl rfl rfl rfl ?_
      refine o_pure (p_pick_false (v := .bool false) rfl rfl) rfl rfl rfl ?_
      exact o_sub (Sub.cons rfl (Sub.skip rfl (Sub.skip rfl (Sub.skip rfl (Sub.skip rfl (Sub.skip rfl (Sub.refl _))))))) hk
    refine o_pure (p_move (v := .bool (((((Clock.check c) == (Clock.check c)) && (decide (((Clock.access c key).1) = (⟨0, 0, []⟩ : DClock)))) && (((Clock.access c key).2.1) == false)) && (((Clock.access c key).2.2) == 0))) rfl) rfl rfl rfl ?_
    refine o_and (p := 121) 4 ((Clock.accessErr c key) == (Clock.check c)) ?_ ?_ ?_
    · intro hb88 hk
      simp only [Bool.and_eq_true, beq_iff_eq, decide_eq_true_eq] at hb88
      refine o_unguard 117 rfl rfl ?_
      refine o_pure (p_move (v := .int .i64 (Clock.accessErr c key)) rfl) rfl rfl rfl ?_
      refine o_unguard 117 rfl rfl ?_
      refine o_pure (p_move (v := .int .i64 (Clock.check c)) rfl) rfl rfl rfl ?_
      refine o_unguard 117 rfl rfl ?_
      refine o_pure (p_eq (p := (Clock.accessErr c key)) (q := (Clock.check c)) rfl rfl) rfl rfl rfl ?_
      refine o_pure (p_pick_true (u := .bool ((Clock.accessErr c key) == (Clock.check c))) rfl rfl) rfl rfl rfl ?_
      exact o_sub (Sub.cons rfl (Sub.skip rfl (Sub.skip rfl (Sub.skip rfl (Sub.skip rfl (Sub.skip rfl (Sub.refl _))))))) hk
    · intro hb88 hk
      refine o_guard_no rfl 117 rfl rfl rfl rfl rfl ?_
      refine o_guard_no rfl 117 rfl rfl rfl rfl rfl ?_
      refine o_guard_no rfl 117 rfl rfl rfl rfl rfl ?_
      refine o_pure (p_pick_false (v := .bool false) rfl rfl) rfl rfl rfl ?_
      exact o_sub (Sub.cons rfl (Sub.skip rfl (Sub.skip rfl (Sub.skip rfl (Sub.skip rfl (Sub.skip rfl (Sub.refl _))))))) hk
    refine o_pure (p_move (v := .bool ((((((Clock.check c) == (Clock.check c)) && (decide (((Clock.access c key).1) = (⟨0, 0, []⟩ : DClock)))) && (((Clock.access c key).2.1) == false)) && (((Clock.access c key).2.2) == 0)) && ((Clock.accessErr c key) == (Clock.check c)))) rfl) rfl rfl rfl ?_
    refine o_and (p := 126) 4 (decide (((Clock.run c l).1) = (⟨0, 0, []⟩ : DClock))) ?_ ?_ ?_
    · intro hb89 hk
      simp only [Bool.and_eq_true, beq_iff_eq, decide_eq_true_eq] at hb89
      refine o_unguard 122 rfl rfl ?_
      refine o_pure (p_load_agg (i := 5) (vs := [.int .i64 (((Clock.run c l).1).room), .int .i64 (((Clock.run c l).1).hand), .slice a9 (((Clock.run c l).1).frames).length c10]) rfl rfl sh59 rfl rfl) rfl rfl rfl ?_
      refine o_unguard 122 rfl rfl ?_
      refine o_pure (p_load_agg (i := 1) (vs := [.int .i64 0, .int .i64 0, .slice none 0 0]) rfl rfl sh59 rfl rfl) rfl rfl rfl ?_
      refine o_unguard 122 rfl rfl ?_
      refine o_call0 (v := .bool (decide (((Clock.run c l).1) = (⟨0, 0, []⟩ : DClock)))) rfl (sameClock_ok ((Clock.run c l).1) a9 c10 (⟨0, 0, []⟩ : DClock) none 0) hf46 (fun w hw => ⟨(rd_own (i := 6) rfl) w hw, rd_nil w hw⟩) rfl ?_
      refine o_pure (p_pick_true (u := .bool (decide (((Clock.run c l).1) = (⟨0, 0, []⟩ : DClock)))) rfl rfl) rfl rfl rfl ?_
      exact o_sub (Sub.cons rfl (Sub.skip rfl (Sub.skip rfl (Sub.skip rfl (Sub.skip rfl (Sub.skip rfl (Sub.refl _))))))) hk
    · intro hb89 hk
      refine o_guard_no rfl 122 rfl rfl rfl rfl rfl ?_
      refine o_guard_no rfl 122 rfl rfl rfl rfl rfl ?_
      refine o_guard_no rfl 122 rfl rfl rfl rfl rfl ?_
      refine o_pure (p_pick_false (v := .bool false) rfl rfl) rfl rfl rfl ?_
      exact o_sub (Sub.cons rfl (Sub.skip rfl (Sub.skip rfl (Sub.skip rfl (Sub.skip rfl (Sub.skip rfl (Sub.refl _))))))) hk
    refine o_pure (p_move (v := .bool (((((((Clock.check c) == (Clock.check c)) && (decide (((Clock.access c key).1) = (⟨0, 0, []⟩ : DClock)))) && (((Clock.access c key).2.1) == false)) && (((Clock.access c key).2.2) == 0)) && ((Clock.accessErr c key) == (Clock.check c))) && (decide (((Clock.run c l).1) = (⟨0, 0, []⟩ : DClock))))) rfl) rfl rfl rfl ?_
    refine o_and (p := 131) 4 (((Clock.run c l).2) == 0) ?_ ?_ ?_
    · intro hb90 hk
      simp only [Bool.and_eq_true, beq_iff_eq, decide_eq_true_eq] at hb90
      refine o_unguard 127 rfl rfl ?_
      refine o_pure (p_move (v := .int .i64 ((Clock.run c l).2)) rfl) rfl rfl rfl ?_
      refine o_unguard 127 rfl rfl ?_
      refine o_pure (p_move (v := .int .i64 0) rfl) rfl rfl rfl ?_
      refine o_unguard 127 rfl rfl ?_
      refine o_pure (p_eq (p := ((Clock.run c l).2)) (q := 0) rfl rfl) rfl rfl rfl ?_
      refine o_pure (p_pick_true (u := .bool (((Clock.run c l).2) == 0)) rfl rfl) rfl rfl rfl ?_
      exact o_sub (Sub.cons rfl (Sub.skip rfl (Sub.skip rfl (Sub.skip rfl (Sub.skip rfl (Sub.skip rfl (Sub.refl _))))))) hk
    · intro hb90 hk
      refine o_guard_no rfl 127 rfl rfl rfl rfl rfl ?_
      refine o_guard_no rfl 127 rfl rfl rfl rfl rfl ?_
      refine o_guard_no rfl 127 rfl rfl rfl rfl rfl ?_
      refine o_pure (p_pick_false (v := .bool false) rfl rfl) rfl rfl rfl ?_
      exact o_sub (Sub.cons rfl (Sub.skip rfl (Sub.skip rfl (Sub.skip rfl (Sub.skip rfl (Sub.skip rfl (Sub.refl _))))))) hk
    refine o_pure (p_move (v := .bool ((((((((Clock.check c) == (Clock.check c)) && (decide (((Clock.access c key).1) = (⟨0, 0, []⟩ : DClock)))) && (((Clock.access c key).2.1) == false)) && (((Clock.access c key).2.2) == 0)) && ((Clock.accessErr c key) == (Clock.check c))) && (decide (((Clock.run c l).1) = (⟨0, 0, []⟩ : DClock)))) && (((Clock.run c l).2) == 0))) rfl) rfl rfl rfl ?_
    refine o_and (p := 136) 4 ((Clock.runErr c l) == (Clock.check c)) ?_ ?_ ?_
    · intro hb91 hk
      simp only [Bool.and_eq_true, beq_iff_eq, decide_eq_true_eq] at hb91
      refine o_unguard 132 rfl rfl ?_
      refine o_pure (p_move (v := .int .i64 (Clock.runErr c l)) rfl) rfl rfl rfl ?_
      refine o_unguard 132 rfl rfl ?_
      refine o_pure (p_move (v := .int .i64 (Clock.check c)) rfl) rfl rfl rfl ?_
      refine o_unguard 132 rfl rfl ?_
      refine o_pure (p_eq (p := (Clock.runErr c l)) (q := (Clock.check c)) rfl rfl) rfl rfl rfl ?_
      refine o_pure (p_pick_true (u := .bool ((Clock.runErr c l) == (Clock.check c))) rfl rfl) rfl rfl rfl ?_
      exact o_sub (Sub.cons rfl (Sub.skip rfl (Sub.skip rfl (Sub.skip rfl (Sub.skip rfl (Sub.skip rfl (Sub.refl _))))))) hk
    · intro hb91 hk
      refine o_guard_no rfl 132 rfl rfl rfl rfl rfl ?_
      refine o_guard_no rfl 132 rfl rfl rfl rfl rfl ?_
      refine o_guard_no rfl 132 rfl rfl rfl rfl rfl ?_
      refine o_pure (p_pick_false (v := .bool false) rfl rfl) rfl rfl rfl ?_
      exact o_sub (Sub.cons rfl (Sub.skip rfl (Sub.skip rfl (Sub.skip rfl (Sub.skip rfl (Sub.skip rfl (Sub.refl _))))))) hk
    refine o_pure (p_move (v := .bool (((((((((Clock.check c) == (Clock.check c)) && (decide (((Clock.access c key).1) = (⟨0, 0, []⟩ : DClock)))) && (((Clock.access c key).2.1) == false)) && (((Clock.access c key).2.2) == 0)) && ((Clock.accessErr c key) == (Clock.check c))) && (decide (((Clock.run c l).1) = (⟨0, 0, []⟩ : DClock)))) && (((Clock.run c l).2) == 0)) && ((Clock.runErr c l) == (Clock.check c)))) rfl) rfl rfl rfl ?_
    refine o_and (p := 141) 4 (decide ((Clock.clear c) = (⟨0, 0, []⟩ : DClock))) ?_ ?_ ?_
    · intro hb92 hk
      simp only [Bool.and_eq_true, beq_iff_eq, decide_eq_true_eq] at hb92
      refine o_unguard 137 rfl rfl ?_
      refine o_pure (p_load_agg (i := 3) (vs := [.int .i64 ((Clock.clear c).room), .int .i64 ((Clock.clear c).hand), .slice a14 ((Clock.clear c).frames).length c15]) rfl rfl sh59 rfl rfl) rfl rfl rfl ?_
      refine o_unguard 137 rfl rfl ?_
      refine o_pure (p_load_agg (i := 0) (vs := [.int .i64 0, .int .i64 0, .slice none 0 0]) rfl rfl sh59 rfl rfl) rfl rfl rfl ?_
      refine o_unguard 137 rfl rfl ?_
      refine o_call0 (v := .bool (decide ((Clock.clear c) = (⟨0, 0, []⟩ : DClock)))) rfl (sameClock_ok (Clock.clear c) a14 c15 (⟨0, 0, []⟩ : DClock) none 0) hf46 (fun w hw => ⟨(rd_own (i := 4) rfl) w hw, rd_nil w hw⟩) rfl ?_
      refine o_pure (p_pick_true (u := .bool (decide ((Clock.clear c) = (⟨0, 0, []⟩ : DClock)))) rfl rfl) rfl rfl rfl ?_
      exact o_sub (Sub.cons rfl (Sub.skip rfl (Sub.skip rfl (Sub.skip rfl (Sub.skip rfl (Sub.skip rfl (Sub.refl _))))))) hk
    · intro hb92 hk
      refine o_guard_no rfl 137 rfl rfl rfl rfl rfl ?_
      refine o_guard_no rfl 137 rfl rfl rfl rfl rfl ?_
      refine o_guard_no rfl 137 rfl rfl rfl rfl rfl ?_
      refine o_pure (p_pick_false (v := .bool false) rfl rfl) rfl rfl rfl ?_
      exact o_sub (Sub.cons rfl (Sub.skip rfl (Sub.skip rfl (Sub.skip rfl (Sub.skip rfl (Sub.skip rfl (Sub.refl _))))))) hk
    refine o_pure (p_move (v := .bool ((((((((((Clock.check c) == (Clock.check c)) && (decide (((Clock.access c key).1) = (⟨0, 0, []⟩ : DClock)))) && (((Clock.access c key).2.1) == false)) && (((Clock.access c key).2.2) == 0)) && ((Clock.accessErr c key) == (Clock.check c))) && (decide (((Clock.run c l).1) = (⟨0, 0, []⟩ : DClock)))) && (((Clock.run c l).2) == 0)) && ((Clock.runErr c l) == (Clock.check c))) && (decide ((Clock.clear c) = (⟨0, 0, []⟩ : DClock))))) rfl) rfl rfl rfl ?_
    refine o_and (p := 146) 4 ((Clock.check c) == (Clock.check c)) ?_ ?_ ?_
    · intro hb93 hk
      simp only [Bool.and_eq_true, beq_iff_eq, decide_eq_true_eq] at hb93
      refine o_unguard 142 rfl rfl ?_
      refine o_pure (p_move (v := .int .i64 (Clock.check c)) rfl) rfl rfl rfl ?_
      refine o_unguard 142 rfl rfl ?_
      refine o_pure (p_move (v := .int .i64 (Clock.check c)) rfl) rfl rfl rfl ?_
      refine o_unguard 142 rfl rfl ?_
      refine o_pure (p_eq (p := (Clock.check c)) (q := (Clock.check c)) rfl rfl) rfl rfl rfl ?_
      refine o_pure (p_pick_true (u := .bool ((Clock.check c) == (Clock.check c))) rfl rfl) rfl rfl rfl ?_
      exact o_sub (Sub.cons rfl (Sub.skip rfl (Sub.skip rfl (Sub.skip rfl (Sub.skip rfl (Sub.skip rfl (Sub.refl _))))))) hk
    · intro hb93 hk
      refine o_guard_no rfl 142 rfl rfl rfl rfl rfl ?_
      refine o_guard_no rfl 142 rfl rfl rfl rfl rfl ?_
      refine o_guard_no rfl 142 rfl rfl rfl rfl rfl ?_
      refine o_pure (p_pick_false (v := .bool false) rfl rfl) rfl rfl rfl ?_
      exact o_sub (Sub.cons rfl (Sub.skip rfl (Sub.skip rfl (Sub.skip rfl (Sub.skip rfl (Sub.skip rfl (Sub.refl _))))))) hk
    refine o_pure (p_assign (v := .bool (((((((((((Clock.check c) == (Clock.check c)) && (decide (((Clock.access c key).1) = (⟨0, 0, []⟩ : DClock)))) && (((Clock.access c key).2.1) == false)) && (((Clock.access c key).2.2) == 0)) && ((Clock.accessErr c key) == (Clock.check c))) && (decide (((Clock.run c l).1) = (⟨0, 0, []⟩ : DClock)))) && (((Clock.run c l).2) == 0)) && ((Clock.runErr c l) == (Clock.check c))) && (decide ((Clock.clear c) = (⟨0, 0, []⟩ : DClock)))) && ((Clock.check c) == (Clock.check c)))) rfl) rfl rfl rfl ?_
    refine o_nil ?_
    refine q_then ?_
    refine c_ret ?_
    have hr0 : ((((((((((((Clock.check c) == (Clock.check c)) && (decide (((Clock.access c key).1) = (⟨0, 0, []⟩ : DClock)))) && (((Clock.access c key).2.1) == false)) && (((Clock.access c key).2.2) == 0)) && ((Clock.accessErr c key) == (Clock.check c))) && (decide (((Clock.run c l).1) = (⟨0, 0, []⟩ : DClock)))) && (((Clock.run c l).2) == 0)) && ((Clock.runErr c l) == (Clock.check c))) && (decide ((Clock.clear c) = (⟨0, 0, []⟩ : DClock)))) && ((Clock.check c) == (Clock.check c))) : Bool) = true := by
      rcases Clock.acc_cases c key with ⟨a0, a1, a2⟩ | ⟨a0, a3, a1, a2⟩ | ⟨a0, a3, a1, a2⟩ <;> rcases Clock.run_cases c l with ⟨b0, b1, b2⟩ | ⟨b0, b3, b1, b2⟩ | ⟨b0, b3, b1, b2⟩ <;> first | (exfalso; omega) | (rw [a1, a2, b1, b2]; first | (rw [Clock.clear_bad a0]; simp [Clock.zero]) | (rw [Clock.clear_ok a0, Clock.turn_eq hI (by omega)]; first | (simp [Clock.zero, a0]; done) | simp [Clock.zero, a0, b3]))
    refine q_end0 (v := .bool (((((((((((Clock.check c) == (Clock.check c)) && (decide (((Clock.access c key).1) = (⟨0, 0, []⟩ : DClock)))) && (((Clock.access c key).2.1) == false)) && (((Clock.access c key).2.2) == 0)) && ((Clock.accessErr c key) == (Clock.check c))) && (decide (((Clock.run c l).1) = (⟨0, 0, []⟩ : DClock)))) && (((Clock.run c l).2) == 0)) && ((Clock.runErr c l) == (Clock.check c))) && (decide ((Clock.clear c) = (⟨0, 0, []⟩ : DClock)))) && ((Clock.check c) == (Clock.check c)))) (rt1 rfl (r_tmp rfl)) (i := 10) rfl ?_
    exact (by have hcc := congrArg (fun (y0 : Bool) => (.bool y0 : Value)) hr0; exact hcc)
end Go.Proofs.Ythbfdhphnofacab
