/- The walks, printed by a program from the translation and a specification. -/
import Derived.Test.YthbfdhphnofacacLrF
import Derived.Test.YthbfdhphnofacacLrLaw
import Derived.Test.YthbfdhphnofacacLrW5
namespace Go.Proofs.Ythbfdhphnofacac
open Go.Sx Go.RowKit
set_option maxHeartbeats 8000000 in
set_option maxRecDepth 100000 in
theorem lruSpec_ok (c : DCache) (ac_0 : Option Addr) (cc_0 : Nat) (key : Int) (l : List Int) (al : Option Addr) (cl : Nat) (room : Int) : Fn0 Try.prog 14 [.agg #[.int .i64 c.room, .slice ac_0 c.keys.length cc_0], .int .i64 key, .slice al l.length cl, .int .i64 room] (fun w => Rd tInt w ac_0 cc_0 c.keys ∧ Rd tInt w al cl l) (.bool true) := by
  refine fn0 (nt := 181) (F0 := [(0, .agg #[.int .i64 c.room, .slice ac_0 c.keys.length cc_0]), (1, .int .i64 key), (2, .slice al l.length cl), (3, .int .i64 room)]) Try.func14 rfl Try.ntmps14 rfl rfl (fun w0 hpre => ?_)
  obtain ⟨hc_0, hl⟩ := hpre
  have hlhc_0 := hc_0.2.1
  have hlhl := hl.2.1
  refine c_seq ?_
  refine c_region ?_
  refine o_box (v := .agg #[.int .i64 c.room, .slice ac_0 c.keys.length cc_0]) rfl rfl (fun B1 => ?_)
  refine o_pure (p_assign (v := .bool false) rfl) rfl rfl rfl ?_
  refine o_nil ?_
  refine q_then ?_
  refine c_seq ?_
  refine c_region ?_
  refine o_pure (p_load_agg (i := 0) (vs := [.int .i64 c.room, .slice ac_0 c.keys.length cc_0]) rfl rfl sh72 rfl rfl) rfl rfl rfl ?_
  refine o_pure (p_move (v := .int .i64 key) rfl) rfl rfl rfl ?_
  refine o_callM rfl (laccess_ok c ac_0 cc_0 key) hf52 (fun w hw => (rd_base (i := 1) rfl hc_0) w hw) rfl (fun _ _ _ _ ha hA => SlO.agree ha hA) ?_
  rintro ⟨a4, c5⟩ S2
  refine o_know (fun w hw => own_len (i := 0) (T := tInt) hw rfl) (fun hlr6 => ?_)
  refine o_pure (p_move (v := .tuple #[.agg #[.int .i64 (((Lru.access c key).1).room), .slice a4 (((Lru.access c key).1).keys).length c5], .bool ((Lru.access c key).2.1), .int .i64 ((Lru.access c key).2.2), .int .i64 (Lru.accessErr c key)]) rfl) rfl rfl rfl ?_
  refine o_pure (p_extract (vs := [.agg #[.int .i64 (((Lru.access c key).1).room), .slice a4 (((Lru.access c key).1).keys).length c5], .bool ((Lru.access c key).2.1), .int .i64 ((Lru.access c key).2.2), .int .i64 (Lru.accessErr c key)]) (v := .agg #[.int .i64 (((Lru.access c key).1).room), .slice a4 (((Lru.access c key).1).keys).length c5]) rfl rfl) rfl rfl rfl ?_
  refine o_pure (p_extract (vs := [.agg #[.int .i64 (((Lru.access c key).1).room), .slice a4 (((Lru.access c key).1).keys).length c5], .bool ((Lru.access c key).2.1), .int .i64 ((Lru.access c key).2.2), .int .i64 (Lru.accessErr c key)]) (v := .bool ((Lru.access c key).2.1)) rfl rfl) rfl rfl rfl ?_
  refine o_pure (p_extract (vs := [.agg #[.int .i64 (((Lru.access c key).1).room), .slice a4 (((Lru.access c key).1).keys).length c5], .bool ((Lru.access c key).2.1), .int .i64 ((Lru.access c key).2.2), .int .i64 (Lru.accessErr c key)]) (v := .int .i64 ((Lru.access c key).2.2)) rfl rfl) rfl rfl rfl ?_
  refine o_pure (p_extract (vs := [.agg #[.int .i64 (((Lru.access c key).1).room), .slice a4 (((Lru.access c key).1).keys).length c5], .bool ((Lru.access c key).2.1), .int .i64 ((Lru.access c key).2.2), .int .i64 (Lru.accessErr c key)]) (v := .int .i64 (Lru.accessErr c key)) rfl rfl) rfl rfl rfl ?_
  refine o_alloc ze72 rfl (fun B7 => ?_)
  refine o_storeN (i := 0) (vs := [.int .i64 (((Lru.access c key).1).room), .slice a4 (((Lru.access c key).1).keys).length c5]) (cs' := [.int .i64 (((Lru.access c key).1).room), .slice a4 (((Lru.access c key).1).keys).length c5]) rfl rfl rfl sz72 rfl rfl rfl rfl ?_
  refine o_pure (p_assign (v := .bool ((Lru.access c key).2.1)) rfl) rfl rfl rfl ?_
  refine o_pure (p_assign (v := .int .i64 ((Lru.access c key).2.2)) rfl) rfl rfl rfl ?_
  refine o_pure (p_assign (v := .int .i64 (Lru.accessErr c key)) rfl) rfl rfl rfl ?_
  refine o_nil ?_
  refine q_then ?_
  refine c_seq ?_
  refine c_region ?_
  refine o_pure (p_load_agg (i := 2) (vs := [.int .i64 c.room, .slice ac_0 c.keys.length cc_0]) rfl rfl sh72 rfl rfl) rfl rfl rfl ?_
  refine o_pure (p_move (v := .slice al l.length cl) rfl) rfl rfl rfl ?_
  refine o_callM rfl (lrun_ok c ac_0 cc_0 l al cl) hf50 (fun w hw => ⟨(rd_base (i := 3) rfl hc_0) w hw, (rd_base (i := 3) rfl hl) w hw⟩) rfl (fun _ _ _ _ ha hA => SlO.agree ha hA) ?_
  rintro ⟨a10, c11⟩ S8
  refine o_know (fun w hw => own_len (i := 0) (T := tInt) hw rfl) (fun hlr12 => ?_)
  refine o_pure (p_move (v := .tuple #[.agg #[.int .i64 (((Lru.run c l).1).room), .slice a10 (((Lru.run c l).1).keys).length c11], .int .i64 ((Lru.run c l).2), .int .i64 (Lru.runErr c l)]) rfl) rfl rfl rfl ?_
  refine o_pure (p_extract (vs := [.agg #[.int .i64 (((Lru.run c l).1).room), .slice a10 (((Lru.run c l).1).keys).length c11], .int .i64 ((Lru.run c l).2), .int .i64 (Lru.runErr c l)]) (v := .agg #[.int .i64 (((Lru.run c l).1).room), .slice a10 (((Lru.run c l).1).keys).length c11]) rfl rfl) rfl rfl rfl ?_
  refine o_pure (p_extract (vs := [.agg #[.int .i64 (((Lru.run c l).1).room), .slice a10 (((Lru.run c l).1).keys).length c11], .int .i64 ((Lru.run c l).2), .int .i64 (Lru.runErr c l)]) (v := .int .i64 ((Lru.run c l).2)) rfl rfl) rfl rfl rfl ?_
  refine o_pure (p_extract (vs := [.agg #[.int .i64 (((Lru.run c l).1).room), .slice a10 (((Lru.run c l).1).keys).length c11], .int .i64 ((Lru.run c l).2), .int .i64 (Lru.runErr c l)]) (v := .int .i64 (Lru.runErr c l)) rfl rfl) rfl rfl rfl ?_
  refine o_alloc ze72 rfl (fun B13 => ?_)
  refine o_storeN (i := 0) (vs := [.int .i64 (((Lru.run c l).1).room), .slice a10 (((Lru.run c l).1).keys).length c11]) (cs' := [.int .i64 (((Lru.run c l).1).room), .slice a10 (((Lru.run c l).1).keys).length c11]) rfl rfl rfl sz72 rfl rfl rfl rfl ?_
  refine o_pure (p_assign (v := .int .i64 ((Lru.run c l).2)) rfl) rfl rfl rfl ?_
  refine o_pure (p_assign (v := .int .i64 (Lru.runErr c l)) rfl) rfl rfl rfl ?_
  refine o_nil ?_
  refine q_then ?_
  refine c_seq ?_
  refine c_region ?_
  refine o_pure (p_load_agg (i := 4) (vs := [.int .i64 c.room, .slice ac_0 c.keys.length cc_0]) rfl rfl sh72 rfl rfl) rfl rfl rfl ?_
  refine o_pure (p_move (v := .int .i64 room) rfl) rfl rfl rfl ?_
  refine o_callM rfl (lresize_ok c ac_0 cc_0 room) hf53 (fun w hw => (rd_base (i := 5) rfl hc_0) w hw) rfl (fun _ _ _ _ ha hA => ⟨SlR.agree ha hA.1, SlR.agree ha hA.2⟩) ?_
  rintro ⟨a16, c17, a18, c19⟩ S14
  refine o_know (fun w hw => (hw.at (i := 0) rfl).here.1.2.1) (fun hlr20 => ?_)
  refine o_know (fun w hw => (hw.at (i := 0) rfl).here.2.2.1) (fun hlr21 => ?_)
  refine o_pure (p_move (v := .tuple #[.agg #[.int .i64 (((Lru.resize c room).1).room), .slice a16 (((Lru.resize c room).1).keys).length c17], .slice a18 ((Lru.resize c room).2).length c19, .int .i64 (Lru.sizeErr c room)]) rfl) rfl rfl rfl ?_
  refine o_pure (p_extract (vs := [.agg #[.int .i64 (((Lru.resize c room).1).room), .slice a16 (((Lru.resize c room).1).keys).length c17], .slice a18 ((Lru.resize c room).2).length c19, .int .i64 (Lru.sizeErr c room)]) (v := .agg #[.int .i64 (((Lru.resize c room).1).room), .slice a16 (((Lru.resize c room).1).keys).length c17]) rfl rfl) rfl rfl rfl ?_
  refine o_pure (p_extract (vs := [.agg #[.int .i64 (((Lru.resize c room).1).room), .slice a16 (((Lru.resize c room).1).keys).length c17], .slice a18 ((Lru.resize c room).2).length c19, .int .i64 (Lru.sizeErr c room)]) (v := .slice a18 ((Lru.resize c room).2).length c19) rfl rfl) rfl rfl rfl ?_
  refine o_pure (p_extract (vs := [.agg #[.int .i64 (((Lru.resize c room).1).room), .slice a16 (((Lru.resize c room).1).keys).length c17], .slice a18 ((Lru.resize c room).2).length c19, .int .i64 (Lru.sizeErr c room)]) (v := .int .i64 (Lru.sizeErr c room)) rfl rfl) rfl rfl rfl ?_
  refine o_alloc ze72 rfl (fun B22 => ?_)
  refine o_storeN (i := 0) (vs := [.int .i64 (((Lru.resize c room).1).room), .slice a16 (((Lru.resize c room).1).keys).length c17]) (cs' := [.int .i64 (((Lru.resize c room).1).room), .slice a16 (((Lru.resize c room).1).keys).length c17]) rfl rfl rfl sz72 rfl rfl rfl rfl ?_
  refine o_pure (p_assign (v := .slice a18 ((Lru.resize c room).2).length c19) rfl) rfl rfl rfl ?_
  refine o_pure (p_assign (v := .int .i64 (Lru.sizeErr c room)) rfl) rfl rfl rfl ?_
  refine o_nil ?_
  refine q_then ?_
  refine c_seq ?_
  refine c_region ?_
  refine o_pure (p_load_agg (i := 6) (vs := [.int .i64 c.room, .slice ac_0 c.keys.length cc_0]) rfl rfl sh72 rfl rfl) rfl rfl rfl ?_
  refine o_call0 (v := .int .i64 (Lru.check c)) rfl (lruCheck_ok c ac_0 cc_0) hf54 (fun w hw => (rd_base (i := 7) rfl hc_0) w hw) rfl ?_
  refine o_pure (p_assign (v := .int .i64 (Lru.check c)) rfl) rfl rfl rfl ?_
  refine o_nil ?_
  refine q_then ?_
  refine c_seq ?_
  refine c_region ?_
  refine o_pure (p_move (v := .int .i64 (Lru.check c)) rfl) rfl rfl rfl ?_
  refine o_pure (p_move (v := .int .i64 (Lru.check c)) rfl) rfl rfl rfl ?_
  refine o_pure (p_move (v := .int .i64 (Lru.check c)) rfl) rfl rfl rfl ?_
  refine o_pure (p_assign (v := .int .i64 (Lru.check c)) rfl) rfl rfl rfl ?_
  refine o_pure (p_assign (v := .int .i64 (Lru.check c)) rfl) rfl rfl rfl ?_
  refine o_pure (p_assign (v := .int .i64 (Lru.check c)) rfl) rfl rfl rfl ?_
  refine o_nil ?_
  refine q_then ?_
  refine c_seq ?_
  refine c_region ?_
  refine o_alloc ze72 rfl (fun B23 => ?_)
  refine o_alloc ze72 rfl (fun B24 => ?_)
  refine o_alloc ze72 rfl (fun B25 => ?_)
  refine o_nil ?_
  refine q_then ?_
  refine c_seq ?_
  refine c_region ?_
  refine o_pure (p_assign (v := .bool false) rfl) rfl rfl rfl ?_
  refine o_pure (p_assign (v := .int .i64 0) rfl) rfl rfl rfl ?_
  refine o_pure (p_assign (v := .int .i64 0) rfl) rfl rfl rfl ?_
  refine o_nil ?_
  refine q_then ?_
  refine c_seq ?_
  refine c_region ?_
  refine o_pure (p_assign (v := .slice none 0 0) rfl) rfl rfl rfl ?_
  refine o_nil ?_
  refine q_then ?_
  refine c_seq ?_
  refine c_seq ?_
  refine c_region ?_
  refine o_pure (p_move (v := .int .i64 (Lru.check c)) rfl) rfl rfl rfl ?_
  refine o_pure (p_eq (p := (Lru.check c)) (q := 0) rfl rfl) rfl rfl rfl ?_
  refine o_nil ?_
  refine q_then ?_
  refine c_cond (b := ((Lru.check c) == 0)) rfl (fun hc26 => ?_) (fun hc26 => ?_)
  · simp only [beq_iff_eq] at hc26
    have hok := Lru.ok_of hc26
    have hroom := hok.room
    have hlen := hok.len
    refine c_seq ?_
    refine c_seq ?_
    refine c_region ?_
    refine o_pure (p_move (v := .int .i64 key) rfl) rfl rfl rfl ?_
    refine o_pure (p_lt (p := key) (q := 0) rfl rfl) rfl rfl rfl ?_
    refine o_pure (p_move (v := .bool (decide (key < 0))) rfl) rfl rfl rfl ?_
    refine o_or (p := 65) 3 (decide (1048576 < key)) ?_ ?_ ?_
    · intro hb27 hk
      simp only [decide_eq_false_iff_not, Int.not_lt] at hb27
      refine o_unguard 62 rfl rfl ?_
      refine o_pure (p_move (v := .int .i64 key) rfl) rfl rfl rfl ?_
      refine o_unguard 62 rfl rfl ?_
      refine o_pure (p_gt (p := key) (q := 1048576) rfl rfl) rfl rfl rfl ?_
      refine o_pure (p_pick_false (v := .bool (decide (1048576 < key))) rfl rfl) rfl rfl rfl ?_
      exact o_sub (Sub.cons rfl (Sub.skip rfl (Sub.skip rfl (Sub.skip rfl (Sub.skip rfl (Sub.refl _)))))) hk
    · intro hb27 hk
      refine o_guard_no rfl 62 rfl rfl rfl rfl rfl ?_
      refine o_guard_no rfl 62 rfl rfl rfl rfl rfl ?_
      refine o_pure (p_pick_true (u := .bool true) rfl rfl) rfl rfl rfl ?_
      exact o_sub (Sub.cons rfl (Sub.skip rfl (Sub.skip rfl (Sub.skip rfl (Sub.skip rfl (Sub.refl _)))))) hk
    refine o_nil ?_
    refine q_then ?_
    refine c_cond (b := (decide (key < 0) || decide (1048576 < key))) rfl (fun hc28 => ?_) (fun hc28 => ?_)
    · simp only [Bool.or_eq_true, decide_eq_true_eq] at hc28
      refine c_region ?_
      refine o_pure (p_assign (v := .int .i64 3) rfl) rfl rfl rfl ?_
      refine o_nil ?_
      refine q_then ?_
      refine c_seq ?_
      refine c_seq ?_
      refine c_region ?_
      refine o_pure (p_move (v := .slice al l.length cl) rfl) rfl rfl rfl ?_
      refine o_call0 (v := .int .i64 (Lru.trace l)) rfl (traceCheck_ok l al cl) hf44 (fun w hw => (rd_base (i := 10) rfl hl) w hw) rfl ?_
      refine o_pure (p_assign (v := .int .i64 (Lru.trace l)) rfl) rfl rfl rfl ?_
      refine o_nil ?_
      refine q_then ?_
      refine c_seq ?_
      refine c_region ?_
      refine o_pure (p_move (v := .int .i64 (Lru.trace l)) rfl) rfl rfl rfl ?_
      refine o_pure (p_eq (p := (Lru.trace l)) (q := 0) rfl rfl) rfl rfl rfl ?_
      refine o_nil ?_
      refine q_then ?_
      refine c_cond (b := ((Lru.trace l) == 0)) rfl (fun hc29 => ?_) (fun hc29 => ?_)
      · simp only [beq_iff_eq] at hc29
        have hkeys := (Lru.trace_ok.1 hc29).2
        refine c_region ?_
        refine o_pure (p_load_agg (i := 9) (vs := [.int .i64 c.room, .slice ac_0 c.keys.length cc_0]) rfl rfl sh72 rfl rfl) rfl rfl rfl ?_
        refine o_pure (p_move (v := .slice al l.length cl) rfl) rfl rfl rfl ?_
        refine o_callM rfl (lruRun_ok c ac_0 cc_0 l al cl (by first | assumption | exact ⟨hok, hkeys⟩)) hf56 (fun w hw => ⟨(rd_base (i := 10) rfl hc_0) w hw, (rd_base (i := 10) rfl hl) w hw⟩) rfl (fun _ _ _ _ ha hA => hA.imp (fun h => SlR.agree ha h) id) ?_
        rintro ⟨a32, c33⟩ S30
        refine o_pure (p_move (v := .tuple #[.agg #[.int .i64 (((Lru.runGo c 0 l).1).room), .slice a32 (((Lru.runGo c 0 l).1).keys).length c33], .int .i64 ((Lru.runGo c 0 l).2)]) rfl) rfl rfl rfl ?_
        refine o_pure (p_extract (vs := [.agg #[.int .i64 (((Lru.runGo c 0 l).1).room), .slice a32 (((Lru.runGo c 0 l).1).keys).length c33], .int .i64 ((Lru.runGo c 0 l).2)]) (v := .agg #[.int .i64 (((Lru.runGo c 0 l).1).room), .slice a32 (((Lru.runGo c 0 l).1).keys).length c33]) rfl rfl) rfl rfl rfl ?_
        refine o_pure (p_extract (vs := [.agg #[.int .i64 (((Lru.runGo c 0 l).1).room), .slice a32 (((Lru.runGo c 0 l).1).keys).length c33], .int .i64 ((Lru.runGo c 0 l).2)]) (v := .int .i64 ((Lru.runGo c 0 l).2)) rfl rfl) rfl rfl rfl ?_
        refine o_storeN (i := 2) (vs := [.int .i64 (((Lru.runGo c 0 l).1).room), .slice a32 (((Lru.runGo c 0 l).1).keys).length c33]) (cs' := [.int .i64 (((Lru.runGo c 0 l).1).room), .slice a32 (((Lru.runGo c 0 l).1).keys).length c33]) rfl rfl rfl sz72 rfl rfl rfl rfl ?_
        refine o_pure (p_assign (v := .int .i64 ((Lru.runGo c 0 l).2)) rfl) rfl rfl rfl ?_
        refine o_nil ?_
        refine q_then ?_
        refine c_seq ?_
        refine c_region ?_
        refine o_pure (p_move (v := .int .i64 room) rfl) rfl rfl rfl ?_
        refine o_pure (p_lt (p := room) (q := 1) rfl rfl) rfl rfl rfl ?_
        refine o_pure (p_move (v := .bool (decide (room < 1))) rfl) rfl rfl rfl ?_
        refine o_or (p := 88) 3 (decide (40 < room)) ?_ ?_ ?_
        · intro hb34 hk
          simp only [decide_eq_false_iff_not, Int.not_lt] at hb34
          refine o_unguard 85 rfl rfl ?_
          refine o_pure (p_move (v := .int .i64 room) rfl) rfl rfl rfl ?_
          refine o_unguard 85 rfl rfl ?_
          refine o_pure (p_gt (p := room) (q := 40) rfl rfl) rfl rfl rfl ?_
          refine o_pure (p_pick_false (v := .bool (decide (40 < room))) rfl rfl) rfl rfl rfl ?_
          exact o_sub (Sub.cons rfl (Sub.skip rfl (Sub.skip rfl (Sub.skip rfl (Sub.skip rfl (Sub.refl _)))))) hk
        · intro hb34 hk
          refine o_guard_no rfl 85 rfl rfl rfl rfl rfl ?_
          refine o_guard_no rfl 85 rfl rfl rfl rfl rfl ?_
          refine o_pure (p_pick_true (u := .bool true) rfl rfl) rfl rfl rfl ?_
          exact o_sub (Sub.cons rfl (Sub.skip rfl (Sub.skip rfl (Sub.skip rfl (Sub.skip rfl (Sub.refl _)))))) hk
        refine o_nil ?_
        refine q_then ?_
        refine c_cond (b := (decide (room < 1) || decide (40 < room))) rfl (fun hc35 => ?_) (fun hc35 => ?_)
        · simp only [Bool.or_eq_true, decide_eq_true_eq] at hc35
          refine c_region ?_
          refine o_pure (p_assign (v := .int .i64 3) rfl) rfl rfl rfl ?_
          refine o_nil ?_
          refine q_then ?_
          refine c_seq ?_
          refine c_region ?_
          refine o_call0 (v := .bool true) rfl (lruBegun_ok ) hf57 (fun _ _ => trivial) rfl ?_
          refine o_pure (p_move (v := .bool true) rfl) rfl rfl rfl ?_
          refine o_unguard 118 rfl rfl ?_
          refine o_pure (p_load_agg (i := 10) (vs := [.int .i64 c.room, .slice ac_0 c.keys.length cc_0]) rfl rfl sh72 rfl rfl) rfl rfl rfl ?_
          refine o_unguard 118 rfl rfl ?_
          refine o_call0 (v := .int .i64 (Lru.check c)) rfl (lcheck_ok c ac_0 cc_0) hf58 (fun w hw => (rd_base (i := 11) rfl hc_0) w hw) rfl ?_
          refine o_unguard 118 rfl rfl ?_
          refine o_pure (p_move (v := .int .i64 (Lru.check c)) rfl) rfl rfl rfl ?_
          refine o_unguard 118 rfl rfl ?_
          refine o_pure (p_eq (p := (Lru.check c)) (q := (Lru.check c)) rfl rfl) rfl rfl rfl ?_
          refine o_pure (p_pick_true (u := .bool ((Lru.check c) == (Lru.check c))) rfl rfl) rfl rfl rfl ?_
          refine o_pure (p_move (v := .bool ((Lru.check c) == (Lru.check c))) rfl) rfl rfl rfl ?_
          refine o_and (p := 130) 6 ((Lru.trace l) == (Lru.trace l)) ?_ ?_ ?_
          · intro hb36 hk
            simp only [beq_iff_eq] at hb36
            refine o_unguard 124 rfl rfl ?_
            refine o_pure (p_move (v := .slice al l.length cl) rfl) rfl rfl rfl ?_
            refine o_unguard 124 rfl rfl ?_
            refine o_call0 (v := .int .i64 (Lru.trace l)) rfl (checkTrace_ok l al cl) hf59 (fun w hw => (rd_base (i := 11) rfl hl) w hw) rfl ?_
            refine o_unguard 124 rfl rfl ?_
            refine o_pure (p_move (v := .slice al l.length cl) rfl) rfl rfl rfl ?_
            refine o_unguard 124 rfl rfl ?_
            refine o_call0 (v := .int .i64 (Lru.trace l)) rfl (traceCheck_ok l al cl) hf44 (fun w hw => (rd_base (i := 11) rfl hl) w hw) rfl ?_
            refine o_unguard 124 rfl rfl ?_
            refine o_pure (p_eq (p := (Lru.trace l)) (q := (Lru.trace l)) rfl rfl) rfl rfl rfl ?_
            refine o_pure (p_pick_true (u := .bool ((Lru.trace l) == (Lru.trace l))) rfl rfl) rfl rfl rfl ?_
            exact o_sub (Sub.cons rfl (Sub.skip rfl (Sub.skip rfl (Sub.skip rfl (Sub.skip rfl (Sub.skip rfl (Sub.skip rfl (Sub.skip rfl (Sub.refl _))))))))) hk
          · intro hb36 hk
            refine o_guard_no rfl 124 rfl rfl rfl rfl rfl ?_
            refine o_guard_no rfl 124 rfl rfl rfl rfl rfl ?_
            refine o_guard_no rfl 124 rfl rfl rfl rfl rfl ?_
            refine o_guard_no rfl 124 rfl rfl rfl rfl rfl ?_
            refine o_guard_no rfl 124 rfl rfl rfl rfl rfl ?_
            refine o_pure (p_pick_false (v := .bool false) rfl rfl) rfl rfl rfl ?_
            exact o_sub (Sub.cons rfl (Sub.skip rfl (Sub.skip rfl (Sub.skip rfl (Sub.skip rfl (Sub.skip rfl (Sub.skip rfl (Sub.skip rfl (Sub.refl _))))))))) hk
          refine o_pure (p_move (v := .bool (((Lru.check c) == (Lru.check c)) && ((Lru.trace l) == (Lru.trace l)))) rfl) rfl rfl rfl ?_
          refine o_and (p := 135) 4 (decide (((Lru.access c key).1) = (⟨0, []⟩ : DCache))) ?_ ?_ ?_
          · intro hb37 hk
            simp only [Bool.and_eq_true, beq_iff_eq] at hb37
            refine o_unguard 131 rfl rfl ?_
            refine o_pure (p_load_agg (i := 8) (vs := [.int .i64 (((Lru.access c key).1).room), .slice a4 (((Lru.access c key).1).keys).length c5]) rfl rfl sh72 rfl rfl) rfl rfl rfl ?_
            refine o_unguard 131 rfl rfl ?_
            refine o_pure (p_load_agg (i := 3) (vs := [.int .i64 0, .slice none 0 0]) rfl rfl sh72 rfl rfl) rfl rfl rfl ?_
            refine o_unguard 131 rfl rfl ?_
            refine o_call0 (v := .bool (decide (((Lru.access c key).1) = (⟨0, []⟩ : DCache)))) rfl (sameCache_ok ((Lru.access c key).1) a4 c5 (⟨0, []⟩ : DCache) none 0) hf60 (fun w hw => ⟨(rd_own (i := 9) rfl) w hw, rd_nil w hw⟩) rfl ?_
            refine o_pure (p_pick_true (u := .bool (decide (((Lru.access c key).1) = (⟨0, []⟩ : DCache)))) rfl rfl) rfl rfl rfl ?_
            exact o_sub (Sub.cons rfl (Sub.skip rfl (Sub.skip rfl (Sub.skip rfl (Sub.skip rfl (Sub.skip rfl (Sub.refl _))))))) hk
          · intro hb37 hk
            refine o_guard_no rfl 131 rfl rfl rfl rfl rfl ?_
            refine o_guard_no rfl 131 rfl rfl rfl rfl rfl ?_
            refine o_guard_no rfl 131 rfl rfl rfl rfl rfl ?_
            refine o_pure (p_pick_false (v := .bool false) rfl rfl) rfl rfl rfl ?_
            exact o_sub (Sub.cons rfl (Sub.skip rfl (Sub.skip rfl (Sub.skip rfl (Sub.skip rfl (Sub.skip rfl (Sub.refl _))))))) hk
          refine o_pure (p_move (v := .bool ((((Lru.check c) == (Lru.check c)) && ((Lru.trace l) == (Lru.trace l))) && (decide (((Lru.access c key).1) = (⟨0, []⟩ : DCache))))) rfl) rfl rfl rfl ?_
          refine o_and (p := 140) 4 (((Lru.access c key).2.1) == false) ?_ ?_ ?_
          · intro hb38 hk
            simp only [Bool.and_eq_true, beq_iff_eq, decide_eq_true_eq] at hb38
            refine o_unguard 136 rfl rfl ?_
            refine o_pure (p_move (v := .bool ((Lru.access c key).2.1)) rfl) rfl rfl rfl ?_
            refine o_unguard 136 rfl rfl ?_
            refine o_pure (p_move (v := .bool false) rfl) rfl rfl rfl ?_
            refine o_unguard 136 rfl rfl ?_
            refine o_pure (p_eqBool (b := ((Lru.access c key).2.1)) (c := false) rfl rfl Try.underlying4) rfl rfl rfl ?_
            refine o_pure (p_pick_true (u := .bool (((Lru.access c key).2.1) == false)) rfl rfl) rfl rfl rfl ?_
            exact o_sub (Sub.cons rfl (Sub.skip rfl (Sub.skip rfl (Sub.skip rfl (Sub.skip rfl (Sub.skip rfl (Sub.refl _))))))) hk
          · intro hb38 hk
            refine o_guard_no rfl 136 rfl rfl rfl rfl rfl ?_
            refine o_guard_no rfl 136 rfl rfl rfl rfl rfl ?_
            refine o_guard_no rfl 136 rfl rfl rfl rfl rfl ?_
            refine o_pure (p_pick_false (v := .bool false) rfl rfl) rfl rfl rfl ?_
            exact o_sub (Sub.cons rfl (Sub.skip rfl (Sub.skip rfl (Sub.skip rfl (Sub.skip rfl (Sub.skip rfl (Sub.refl _))))))) hk
          refine o_pure (p_move (v := .bool (((((Lru.check c) == (Lru.check c)) && ((Lru.trace l) == (Lru.trace l))) && (decide (((Lru.access c key).1) = (⟨0, []⟩ : DCache)))) && (((Lru.access c key).2.1) == false))) rfl) rfl rfl rfl ?_
          refine o_and (p := 145) 4 (((Lru.access c key).2.2) == 0) ?_ ?_ ?_
          · intro hb39 hk
            simp only [Bool.and_eq_true, beq_iff_eq, decide_eq_true_eq] at hb39
            refine o_unguard 141 rfl rfl ?_
            refine o_pure (p_move (v := .int .i64 ((Lru.access c key).2.2)) rfl) rfl rfl rfl ?_
            refine o_unguard 141 rfl rfl ?_
            refine o_pure (p_move (v := .int .i64 0) rfl) rfl rfl rfl ?_
            refine o_unguard 141 rfl rfl ?_
            refine o_pure (p_eq (p := ((Lru.access c key).2.2)) (q := 0) rfl rfl) rfl rfl rfl ?_
            refine o_pure (p_pick_true (u := .bool (((Lru.access c key).2.2) == 0)) rfl rfl) rfl rfl rfl ?_
            exact o_sub (Sub.cons rfl (Sub.skip rfl (Sub.skip rfl (Sub.skip rfl (Sub.skip rfl (Sub.skip rfl (Sub.refl _))))))) hk
          · intro hb39 hk
            refine o_guard_no rfl 141 rfl rfl rfl rfl rfl ?_
            refine o_guard_no rfl 141 rfl rfl rfl rfl rfl ?_
            refine o_guard_no rfl 141 rfl rfl rfl rfl rfl ?_
            refine o_pure (p_pick_false (v := .bool false) rfl rfl) rfl rfl rfl ?_
            exact o_sub (Sub.cons rfl (Sub.skip rfl (Sub.skip rfl (Sub.skip rfl (Sub.skip rfl (Sub.skip rfl (Sub.refl _))))))) hk
          refine o_pure (p_move (v := .bool ((((((Lru.check c) == (Lru.check c)) && ((Lru.trace l) == (Lru.trace l))) && (decide (((Lru.access c key).1) = (⟨0, []⟩ : DCache)))) && (((Lru.access c key).2.1) == false)) && (((Lru.access c key).2.2) == 0))) rfl) rfl rfl rfl ?_
          refine o_and (p := 150) 4 ((Lru.accessErr c key) == 3) ?_ ?_ ?_
          · intro hb40 hk
            simp only [Bool.and_eq_true, beq_iff_eq, decide_eq_true_eq] at hb40
            refine o_unguard 146 rfl rfl ?_
            refine o_pure (p_move (v := .int .i64 (Lru.accessErr c key)) rfl) rfl rfl rfl ?_
            refine o_unguard 146 rfl rfl ?_
            refine o_pure (p_move (v := .int .i64 3) rfl) rfl rfl rfl ?_
            refine o_unguard 146 rfl rfl ?_
            refine o_pure (p_eq (p := (Lru.accessErr c key)) (q := 3) rfl rfl) rfl rfl rfl ?_
            refine o_pure (p_pick_true (u := .bool ((Lru.accessErr c key) == 3)) rfl rfl) rfl rfl rfl ?_
            exact o_sub (Sub.cons rfl (Sub.skip rfl (Sub.skip rfl (Sub.skip rfl (Sub.skip rfl (Sub.skip rfl (Sub.refl _))))))) hk
          · intro hb40 hk
            refine o_guard_no rfl 146 rfl rfl rfl rfl rfl ?_
            refine o_guard_no rfl 146 rfl rfl rfl rfl rfl ?_
            refine o_guard_no rfl 146 rfl rfl rfl rfl rfl ?_
            refine o_pure (p_pick_false (v := .bool false) rfl rfl) rfl rfl rfl ?_
            exact o_sub (Sub.cons rfl (Sub.skip rfl (Sub.skip rfl (Sub.skip rfl (Sub.skip rfl (Sub.skip rfl (Sub.refl _))))))) hk
          refine o_pure (p_move (v := .bool (((((((Lru.check c) == (Lru.check c)) && ((Lru.trace l) == (Lru.trace l))) && (decide (((Lru.access c key).1) = (⟨0, []⟩ : DCache)))) && (((Lru.access c key).2.1) == false)) && (((Lru.access c key).2.2) == 0)) && ((Lru.accessErr c key) == 3))) rfl) rfl rfl rfl ?_
          refine o_and (p := 155) 4 (decide (((Lru.run c l).1) = ((Lru.runGo c 0 l).1))) ?_ ?_ ?_
          · intro hb41 hk
            simp only [Bool.and_eq_true, beq_iff_eq, decide_eq_true_eq] at hb41
            refine o_unguard 151 rfl rfl ?_
            refine o_pure (p_load_agg (i := 6) (vs := [.int .i64 (((Lru.run c l).1).room), .slice a10 (((Lru.run c l).1).keys).length c11]) rfl rfl sh72 rfl rfl) rfl rfl rfl ?_
            refine o_unguard 151 rfl rfl ?_
            refine o_pure (p_load_agg (i := 2) (vs := [.int .i64 (((Lru.runGo c 0 l).1).room), .slice a32 (((Lru.runGo c 0 l).1).keys).length c33]) rfl rfl sh72 rfl rfl) rfl rfl rfl ?_
            refine o_unguard 151 rfl rfl ?_
            refine o_call0 (v := .bool (decide (((Lru.run c l).1) = ((Lru.runGo c 0 l).1)))) rfl (sameCache_ok ((Lru.run c l).1) a10 c11 ((Lru.runGo c 0 l).1) a32 c33) hf60 (fun w hw => ⟨(rd_own (i := 7) rfl) w hw, (rd_loose (i := 0) rfl (fun hφ => by obtain ⟨h1, h2, h3⟩ := hφ; intro w hw; have g1 : a32 = ac_0 := h1; have g2 : c33 = cc_0 := h2; have g3 : ((Lru.runGo c 0 l).1).keys = c.keys := h3; rw [g1, g2, g3]; exact (rd_base (i := 11) rfl hc_0) w hw)) w hw⟩) rfl ?_
            refine o_pure (p_pick_true (u := .bool (decide (((Lru.run c l).1) = ((Lru.runGo c 0 l).1)))) rfl rfl) rfl rfl rfl ?_
            exact o_sub (Sub.cons rfl (Sub.skip rfl (Sub.skip rfl (Sub.skip rfl (Sub.skip rfl (Sub.skip rfl (Sub.refl _))))))) hk
          · intro hb41 hk
            refine o_guard_no rfl 151 rfl rfl rfl rfl rfl ?_
            refine o_guard_no rfl 151 rfl rfl rfl rfl rfl ?_
            refine o_guard_no rfl 151 rfl rfl rfl rfl rfl ?_
            refine o_pure (p_pick_false (v := .bool false) rfl rfl) rfl rfl rfl ?_
            exact o_sub (Sub.cons rfl (Sub.skip rfl (Sub.skip rfl (Sub.skip rfl (Sub.skip rfl (Sub.skip rfl (Sub.refl _))))))) hk
          refine o_pure (p_move (v := .bool ((((((((Lru.check c) == (Lru.check c)) && ((Lru.trace l) == (Lru.trace l))) && (decide (((Lru.access c key).1) = (⟨0, []⟩ : DCache)))) && (((Lru.access c key).2.1) == false)) && (((Lru.access c key).2.2) == 0)) && ((Lru.accessErr c key) == 3)) && (decide (((Lru.run c l).1) = ((Lru.runGo c 0 l).1))))) rfl) rfl rfl rfl ?_
          refine o_and (p := 160) 4 (((Lru.run c l).2) == ((Lru.runGo c 0 l).2)) ?_ ?_ ?_
          · intro hb42 hk
            simp only [Bool.and_eq_true, beq_iff_eq, decide_eq_true_eq] at hb42
            refine o_unguard 156 rfl rfl ?_
            refine o_pure (p_move (v := .int .i64 ((Lru.run c l).2)) rfl) rfl rfl rfl ?_
            refine o_unguard 156 rfl rfl ?_
            refine o_pure (p_move (v := .int .i64 ((Lru.runGo c 0 l).2)) rfl) rfl rfl rfl ?_
            refine o_unguard 156 rfl rfl ?_
            refine o_pure (p_eq (p := ((Lru.run c l).2)) (q := ((Lru.runGo c 0 l).2)) rfl rfl) rfl rfl rfl ?_
            refine o_pure (p_pick_true (u := .bool (((Lru.run c l).2) == ((Lru.runGo c 0 l).2))) rfl rfl) rfl rfl rfl ?_
            exact o_sub (Sub.cons rfl (Sub.skip rfl (Sub.skip rfl (Sub.skip rfl (Sub.skip rfl (Sub.skip rfl (Sub.refl _))))))) hk
          · intro hb42 hk
            refine o_guard_no rfl 156 rfl rfl rfl rfl rfl ?_
            refine o_guard_no rfl 156 rfl rfl rfl rfl rfl ?_
            refine o_guard_no rfl 156 rfl rfl rfl rfl rfl ?_
            refine o_pure (p_pick_false (v := .bool false) rfl rfl) rfl rfl rfl ?_
            exact o_sub (Sub.cons rfl (Sub.skip rfl (Sub.skip rfl (Sub.skip rfl (Sub.skip rfl (Sub.skip rfl (Sub.refl _))))))) hk
          refine o_pure (p_move (v := .bool (((((((((Lru.check c) == (Lru.check c)) && ((Lru.trace l) == (Lru.trace l))) && (decide (((Lru.access c key).1) = (⟨0, []⟩ : DCache)))) && (((Lru.access c key).2.1) == false)) && (((Lru.access c key).2.2) == 0)) && ((Lru.accessErr c key) == 3)) && (decide (((Lru.run c l).1) = ((Lru.runGo c 0 l).1)))) && (((Lru.run c l).2) == ((Lru.runGo c 0 l).2)))) rfl) rfl rfl rfl ?_
          refine o_and (p := 165) 4 ((Lru.runErr c l) == (Lru.trace l)) ?_ ?_ ?_
          · intro hb43 hk
            simp only [Bool.and_eq_true, beq_iff_eq, decide_eq_true_eq] at hb43
            refine o_unguard 161 rfl rfl ?_
            refine o_pure (p_move (v := .int .i64 (Lru.runErr c l)) rfl) rfl rfl rfl ?_
            refine o_unguard 161 rfl rfl ?_
            refine o_pure (p_move (v := .int .i64 (Lru.trace l)) rfl) rfl rfl rfl ?_
            refine o_unguard 161 rfl rfl ?_
            refine o_pure (p_eq (p := (Lru.runErr c l)) (q := (Lru.trace l)) rfl rfl) rfl rfl rfl ?_
            refine o_pure (p_pick_true (u := .bool ((Lru.runErr c l) == (Lru.trace l))) rfl rfl) rfl rfl rfl ?_
            exact o_sub (Sub.cons rfl (Sub.skip rfl (Sub.skip rfl (Sub.skip rfl (Sub.skip rfl (Sub.skip rfl (Sub.refl _))))))) hk
          · intro hb43 hk
            refine o_guard_no rfl 161 rfl rfl rfl rfl rfl ?_
            refine o_guard_no rfl 161 rfl rfl rfl rfl rfl ?_
            refine o_guard_no rfl 161 rfl rfl rfl rfl rfl ?_
            refine o_pure (p_pick_false (v := .bool false) rfl rfl) rfl rfl rfl ?_
            exact o_sub (Sub.cons rfl (Sub.skip rfl (Sub.skip rfl (Sub.skip rfl (Sub.skip rfl (Sub.skip rfl (Sub.refl _))))))) hk
          refine o_pure (p_move (v := .bool ((((((((((Lru.check c) == (Lru.check c)) && ((Lru.trace l) == (Lru.trace l))) && (decide (((Lru.access c key).1) = (⟨0, []⟩ : DCache)))) && (((Lru.access c key).2.1) == false)) && (((Lru.access c key).2.2) == 0)) && ((Lru.accessErr c key) == 3)) && (decide (((Lru.run c l).1) = ((Lru.runGo c 0 l).1)))) && (((Lru.run c l).2) == ((Lru.runGo c 0 l).2))) && ((Lru.runErr c l) == (Lru.trace l)))) rfl) rfl rfl rfl ?_
          refine o_and (p := 170) 4 (decide (((Lru.resize c room).1) = (⟨0, []⟩ : DCache))) ?_ ?_ ?_
          · intro hb44 hk
            simp only [Bool.and_eq_true, beq_iff_eq, decide_eq_true_eq] at hb44
            refine o_unguard 166 rfl rfl ?_
            refine o_pure (p_load_agg (i := 4) (vs := [.int .i64 (((Lru.resize c room).1).room), .slice a16 (((Lru.resize c room).1).keys).length c17]) rfl rfl sh72 rfl rfl) rfl rfl rfl ?_
            refine o_unguard 166 rfl rfl ?_
            refine o_pure (p_load_agg (i := 1) (vs := [.int .i64 0, .slice none 0 0]) rfl rfl sh72 rfl rfl) rfl rfl rfl ?_
            refine o_unguard 166 rfl rfl ?_
            refine o_call0 (v := .bool (decide (((Lru.resize c room).1) = (⟨0, []⟩ : DCache)))) rfl (sameCache_ok ((Lru.resize c room).1) a16 c17 (⟨0, []⟩ : DCache) none 0) hf60 (fun w hw => ⟨(rd_ent (i := 5) rfl (fun w h => h.1)) w hw, rd_nil w hw⟩) rfl ?_
            refine o_pure (p_pick_true (u := .bool (decide (((Lru.resize c room).1) = (⟨0, []⟩ : DCache)))) rfl rfl) rfl rfl rfl ?_
            exact o_sub (Sub.cons rfl (Sub.skip rfl (Sub.skip rfl (Sub.skip rfl (Sub.skip rfl (Sub.skip rfl (Sub.refl _))))))) hk
          · intro hb44 hk
            refine o_guard_no rfl 166 rfl rfl rfl rfl rfl ?_
            refine o_guard_no rfl 166 rfl rfl rfl rfl rfl ?_
            refine o_guard_no rfl 166 rfl rfl rfl rfl rfl ?_
            refine o_pure (p_pick_false (v := .bool false) rfl rfl) rfl rfl rfl ?_
            exact o_sub (Sub.cons rfl (Sub.skip rfl (Sub.skip rfl (Sub.skip rfl (Sub.skip rfl (Sub.skip rfl (Sub.refl _))))))) hk
          refine o_pure (p_move (v := .bool (((((((((((Lru.check c) == (Lru.check c)) && ((Lru.trace l) == (Lru.trace l))) && (decide (((Lru.access c key).1) = (⟨0, []⟩ : DCache)))) && (((Lru.access c key).2.1) == false)) && (((Lru.access c key).2.2) == 0)) && ((Lru.accessErr c key) == 3)) && (decide (((Lru.run c l).1) = ((Lru.runGo c 0 l).1)))) && (((Lru.run c l).2) == ((Lru.runGo c 0 l).2))) && ((Lru.runErr c l) == (Lru.trace l))) && (decide (((Lru.resize c room).1) = (⟨0, []⟩ : DCache))))) rfl) rfl rfl rfl ?_
          refine o_and (p := 175) 4 (Ref.sameInts ((Lru.resize c room).2) []) ?_ ?_ ?_
          · intro hb45 hk
            simp only [Bool.and_eq_true, beq_iff_eq, decide_eq_true_eq] at hb45
            refine o_unguard 171 rfl rfl ?_
            refine o_pure (p_move (v := .slice a18 ((Lru.resize c room).2).length c19) rfl) rfl rfl rfl ?_
            refine o_unguard 171 rfl rfl ?_
            refine o_pure (p_move (v := .slice none 0 0) rfl) rfl rfl rfl ?_
            refine o_unguard 171 rfl rfl ?_
            refine o_call0 (v := .bool (Ref.sameInts ((Lru.resize c room).2) [])) rfl (sameInts_ok ((Lru.resize c room).2) a18 c19 [] none 0) hf47 (fun w hw => ⟨(rd_ent (i := 5) rfl (fun w h => h.2)) w hw, rd_nil w hw⟩) rfl ?_
            refine o_pure (p_pick_true (u := .bool (Ref.sameInts ((Lru.resize c room).2) [])) rfl rfl) rfl rfl rfl ?_
            exact o_sub (Sub.cons rfl (Sub.skip rfl (Sub.skip rfl (Sub.skip rfl (Sub.skip rfl (Sub.skip rfl (Sub.refl _))))))) hk
          · intro hb45 hk
            refine o_guard_no rfl 171 rfl rfl rfl rfl rfl ?_
            refine o_guard_no rfl 171 rfl rfl rfl rfl rfl ?_
            refine o_guard_no rfl 171 rfl rfl rfl rfl rfl ?_
            refine o_pure (p_pick_false (v := .bool false) rfl rfl) rfl rfl rfl ?_
            exact o_sub (Sub.cons rfl (Sub.skip rfl (Sub.skip rfl (Sub.skip rfl (Sub.skip rfl (Sub.skip rfl (Sub.refl _))))))) hk
          refine o_pure (p_move (v := .bool ((((((((((((Lru.check c) == (Lru.check c)) && ((Lru.trace l) == (Lru.trace l))) && (decide (((Lru.access c key).1) = (⟨0, []⟩ : DCache)))) && (((Lru.access c key).2.1) == false)) && (((Lru.access c key).2.2) == 0)) && ((Lru.accessErr c key) == 3)) && (decide (((Lru.run c l).1) = ((Lru.runGo c 0 l).1)))) && (((Lru.run c l).2) == ((Lru.runGo c 0 l).2))) && ((Lru.runErr c l) == (Lru.trace l))) && (decide (((Lru.resize c room).1) = (⟨0, []⟩ : DCache)))) && (Ref.sameInts ((Lru.resize c room).2) []))) rfl) rfl rfl rfl ?_
          refine o_and (p := 180) 4 ((Lru.sizeErr c room) == 3) ?_ ?_ ?_
          · intro hb46 hk
            simp only [Bool.and_eq_true, beq_iff_eq, decide_eq_true_eq] at hb46
            refine o_unguard 176 rfl rfl ?_
            refine o_pure (p_move (v := .int .i64 (Lru.sizeErr c room)) rfl) rfl rfl rfl ?_
            refine o_unguard 176 rfl rfl ?_
            refine o_pure (p_move (v := .int .i64 3) rfl) rfl rfl rfl ?_
            refine o_unguard 176 rfl rfl ?_
            refine o_pure (p_eq (p := (Lru.sizeErr c room)) (q := 3) rfl rfl) rfl rfl rfl ?_
            refine o_pure (p_pick_true (u := .bool ((Lru.sizeErr c room) == 3)) rfl rfl) rfl rfl rfl ?_
            exact o_sub (Sub.cons rfl (Sub.skip rfl (Sub.skip rfl (Sub.skip rfl (Sub.skip rfl (Sub.skip rfl (Sub.refl _))))))) hk
          · intro hb46 hk
            refine o_guard_no rfl 176 rfl rfl rfl rfl rfl ?_
            refine o_guard_no rfl 176 rfl rfl rfl rfl rfl ?_
            refine o_guard_no rfl 176 rfl rfl rfl rfl rfl ?_
            refine o_pure (p_pick_false (v := .bool false) rfl rfl) rfl rfl rfl ?_
            exact o_sub (Sub.cons rfl (Sub.skip rfl (Sub.skip rfl (Sub.skip rfl (Sub.skip rfl (Sub.skip rfl (Sub.refl _))))))) hk
          refine o_pure (p_assign (v := .bool (((((((((((((Lru.check c) == (Lru.check c)) && ((Lru.trace l) == (Lru.trace l))) && (decide (((Lru.access c key).1) = (⟨0, []⟩ : DCache)))) && (((Lru.access c key).2.1) == false)) && (((Lru.access c key).2.2) == 0)) && ((Lru.accessErr c key) == 3)) && (decide (((Lru.run c l).1) = ((Lru.runGo c 0 l).1)))) && (((Lru.run c l).2) == ((Lru.runGo c 0 l).2))) && ((Lru.runErr c l) == (Lru.trace l))) && (decide (((Lru.resize c room).1) = (⟨0, []⟩ : DCache)))) && (Ref.sameInts ((Lru.resize c room).2) [])) && ((Lru.sizeErr c room) == 3))) rfl) rfl rfl rfl ?_
          refine o_nil ?_
          refine q_then ?_
          refine c_ret ?_
          have hr0 : ((((((((((((((Lru.check c) == (Lru.check c)) && ((Lru.trace l) == (Lru.trace l))) && (decide (((Lru.access c key).1) = (⟨0, []⟩ : DCache)))) && (((Lru.access c key).2.1) == false)) && (((Lru.access c key).2.2) == 0)) && ((Lru.accessErr c key) == 3)) && (decide (((Lru.run c l).1) = ((Lru.runGo c 0 l).1)))) && (((Lru.run c l).2) == ((Lru.runGo c 0 l).2))) && ((Lru.runErr c l) == (Lru.trace l))) && (decide (((Lru.resize c room).1) = (⟨0, []⟩ : DCache)))) && (Ref.sameInts ((Lru.resize c room).2) [])) && ((Lru.sizeErr c room) == 3)) : Bool) = true := by
            rcases Lru.acc_num c key with ⟨a0, a1, a2⟩ | ⟨a0, a3, a1, a2⟩ | ⟨a0, a3, a1, a2⟩ <;> rcases Lru.run_cases c l with ⟨b0, b1, b2⟩ | ⟨b0, b3, b1, b2⟩ | ⟨b0, b3, b1, b2⟩ <;> rcases Lru.size_num c room with ⟨s0, s1, s2⟩ | ⟨s0, s3, s1, s2⟩ | ⟨s0, s3, s1, s2⟩ <;> first | (exfalso; omega) | (rw [a1, a2, b1, b2, s1, s2]; first | (simp [Lru.zero, Ref.sameInts, a0]; done) | (simp [Lru.zero, Ref.sameInts, a0, b3]; done) | (obtain ⟨hz1, hz2⟩ := hI.done (by omega); rw [hz1, hz2]; first | (simp [Lru.zero, Ref.sameInts, a0]; done) | (simp [Lru.zero, Ref.sameInts, a0, b3]; done)))
          refine q_end0 (v := .bool (((((((((((((Lru.check c) == (Lru.check c)) && ((Lru.trace l) == (Lru.trace l))) && (decide (((Lru.access c key).1) = (⟨0, []⟩ : DCache)))) && (((Lru.access c key).2.1) == false)) && (((Lru.access c key).2.2) == 0)) && ((Lru.accessErr c key) == 3)) && (decide (((Lru.run c l).1) = ((Lru.runGo c 0 l).1)))) && (((Lru.run c l).2) == ((Lru.runGo c 0 l).2))) && ((Lru.runErr c l) == (Lru.trace l))) && (decide (((Lru.resize c room).1) = (⟨0, []⟩ : DCache)))) && (Ref.sameInts ((Lru.resize c room).2) [])) && ((Lru.sizeErr c room) == 3))) (rt1 rfl (r_tmp rfl)) (i := 11) rfl ?_
          exact (by have hcc := congrArg (fun (y0 : Bool) => (.bool y0 : Value)) hr0; exact hcc)
        · simp only [Bool.or_eq_false_iff, decide_eq_false_iff_not, Int.not_lt] at hc35
          refine c_seq ?_
          refine c_region ?_
          refine o_pure (p_move (v := .int .i64 room) rfl) rfl rfl rfl ?_
          refine o_buildSlice (m := 0) (T := tInt) (L := []) (vs := []) rfl rfl rfl rfl Try.underlying52 sz3 (by decide) ze3 rfl (by decide) rfl (fun S47 a48 => ?_)
          refine o_pure (p_fieldAddr (B := B1) (j := 0) (j' := 1) rfl fo72_1 rfl) rfl rfl rfl ?_
          refine o_pure (p_load (i := 11) (v := .slice ac_0 c.keys.length cc_0) rfl rfl sh52 rfl) rfl rfl rfl ?_
          refine o_append (i := 0) (L := []) (M := c.keys) (T := tInt) rfl rfl rfl (rd_base (i := 12) rfl hc_0) Try.underlying52 Try.underlying52 (by intro k h; cases h) el3 (by intro z; simp [tInt, one1]) (by decide) (by first | omega | (simp only [List.length_cons, List.length_nil]; omega) | (simp only [List.length_append, List.length_cons, List.length_nil, List.length_take, List.length_drop]; omega)) rfl (fun a50 c51 S52 => ?_)
          refine o_pure (p_build (cells := [.int .i64 room, .slice a50 c.keys.length c51]) fp72 ze72 rfl rfl) rfl rfl rfl ?_
          refine o_storeN (i := 2) (vs := [.int .i64 room, .slice a50 c.keys.length c51]) (cs' := [.int .i64 room, .slice a50 c.keys.length c51]) rfl rfl rfl sz72 rfl rfl rfl rfl ?_
          refine o_nil ?_
          refine q_then ?_
          refine c_block ?_
          refine c_ownNil tInt ?_
          refine c_loop (St := List Int × Option Addr × Nat × (Nat → Prop) × DCache × Option Addr × Nat × (Nat → Prop))
            (fun ⟨less_, aless_, cless_, Sless_, sc, asc_0, csc_0, Ssc_0⟩ => [(2, .slice al l.length cl), (3, .int .i64 room), (4, .pointer (some ⟨B1, 0, none⟩)), (9, .pointer (some ⟨B7, 0, none⟩)), (10, .bool ((Lru.access c key).2.1)), (11, .int .i64 ((Lru.access c key).2.2)), (12, .int .i64 (Lru.accessErr c key)), (13, .pointer (some ⟨B13, 0, none⟩)), (14, .int .i64 ((Lru.run c l).2)), (15, .int .i64 (Lru.runErr c l)), (16, .pointer (some ⟨B22, 0, none⟩)), (17, .slice a18 ((Lru.resize c room).2).length c19), (18, .int .i64 (Lru.sizeErr c room)), (19, .int .i64 (Lru.check c)), (20, .int .i64 3), (21, .int .i64 (Lru.trace l)), (22, .int .i64 (Lru.check c)), (23, .pointer (some ⟨B23, 0, none⟩)), (24, .pointer (some ⟨B24, 0, none⟩)), (25, .pointer (some ⟨B25, 0, none⟩)), (26, .bool false), (27, .int .i64 0), (28, .int .i64 ((Lru.runGo c 0 l).2)), (29, .slice aless_ less_.length cless_)])
            (fun ⟨less_, aless_, cless_, Sless_, sc, asc_0, csc_0, Ssc_0⟩ => [own tInt Sless_ aless_ cless_ less_, own tInt Ssc_0 asc_0 csc_0 sc.keys, loose tInt (a32 = ac_0 ∧ c33 = cc_0 ∧ (((Lru.runGo c 0 l).1).keys) = c.keys) S30 a32 c33 (((Lru.runGo c 0 l).1).keys), box B25 [.int .i64 sc.room, .slice asc_0 sc.keys.length csc_0] 72, box B24 [.int .i64 (((Lru.runGo c 0 l).1).room), .slice a32 (((Lru.runGo c 0 l).1).keys).length c33] 72, box B23 [.int .i64 0, .slice none 0 0] 72, box B22 [.int .i64 (((Lru.resize c room).1).room), .slice a16 (((Lru.resize c room).1).keys).length c17] 72, ⟨S14, fun w => SlR tInt S14 w a16 c17 (((Lru.resize c room).1).keys) ∧ SlR tInt S14 w a18 c19 ((Lru.resize c room).2)⟩, box B13 [.int .i64 (((Lru.run c l).1).room), .slice a10 (((Lru.run c l).1).keys).length c11] 72, own tInt S8 a10 c11 (((Lru.run c l).1).keys), box B7 [.int .i64 (((Lru.access c key).1).room), .slice a4 (((Lru.access c key).1).keys).length c5] 72, own tInt S2 a4 c5 (((Lru.access c key).1).keys), box B1 [.int .i64 c.room, .slice ac_0 c.keys.length cc_0] 72, base w0])
            (fun ⟨less_, aless_, cless_, Sless_, sc, asc_0, csc_0, Ssc_0⟩ => Lru.ZInv c room sc less_)
            (fun ⟨less_, aless_, cless_, Sless_, sc, asc_0, csc_0, Ssc_0⟩ => sc.keys.length)
            ([], none, 0, (fun _ => False), (⟨room, c.keys⟩ : DCache), a50, c51, S52) ?_ (Sub.cons rfl (Sub.cons rfl (Sub.cons rfl (Sub.cons rfl (Sub.cons rfl (Sub.cons rfl (Sub.cons rfl (Sub.cons rfl (Sub.cons rfl (Sub.cons rfl (Sub.cons rfl (Sub.cons rfl (Sub.cons rfl (Sub.cons rfl (Sub.cons rfl (Sub.cons rfl (Sub.cons rfl (Sub.cons rfl (Sub.cons rfl (Sub.cons rfl (Sub.cons rfl (Sub.cons rfl (Sub.cons rfl (Sub.cons rfl (Sub.nil _))))))))))))))))))))))))) (fun _ hw => hw) ?_
          · exact Lru.ZInv.start (by omega)
          rintro ⟨less_, aless_, cless_, Sless_, sc, asc_0, csc_0, Ssc_0⟩ hI K hK54
          have hzl := hI.len
          have hzb := hI.rb
          show SC _ _ Try.prog 181 w0 _ _ [(2, .slice al l.length cl), (3, .int .i64 room), (4, .pointer (some ⟨B1, 0, none⟩)), (9, .pointer (some ⟨B7, 0, none⟩)), (10, .bool ((Lru.access c key).2.1)), (11, .int .i64 ((Lru.access c key).2.2)), (12, .int .i64 (Lru.accessErr c key)), (13, .pointer (some ⟨B13, 0, none⟩)), (14, .int .i64 ((Lru.run c l).2)), (15, .int .i64 (Lru.runErr c l)), (16, .pointer (some ⟨B22, 0, none⟩)), (17, .slice a18 ((Lru.resize c room).2).length c19), (18, .int .i64 (Lru.sizeErr c room)), (19, .int .i64 (Lru.check c)), (20, .int .i64 3), (21, .int .i64 (Lru.trace l)), (22, .int .i64 (Lru.check c)), (23, .pointer (some ⟨B23, 0, none⟩)), (24, .pointer (some ⟨B24, 0, none⟩)), (25, .pointer (some ⟨B25, 0, none⟩)), (26, .bool false), (27, .int .i64 0), (28, .int .i64 ((Lru.runGo c 0 l).2)), (29, .slice aless_ less_.length cless_)] [own tInt Sless_ aless_ cless_ less_, own tInt Ssc_0 asc_0 csc_0 sc.keys, loose tInt (a32 = ac_0 ∧ c33 = cc_0 ∧ (((Lru.runGo c 0 l).1).keys) = c.keys) S30 a32 c33 (((Lru.runGo c 0 l).1).keys), box B25 [.int .i64 sc.room, .slice asc_0 sc.keys.length csc_0] 72, box B24 [.int .i64 (((Lru.runGo c 0 l).1).room), .slice a32 (((Lru.runGo c 0 l).1).keys).length c33] 72, box B23 [.int .i64 0, .slice none 0 0] 72, box B22 [.int .i64 (((Lru.resize c room).1).room), .slice a16 (((Lru.resize c room).1).keys).length c17] 72, ⟨S14, fun w => SlR tInt S14 w a16 c17 (((Lru.resize c room).1).keys) ∧ SlR tInt S14 w a18 c19 ((Lru.resize c room).2)⟩, box B13 [.int .i64 (((Lru.run c l).1).room), .slice a10 (((Lru.run c l).1).keys).length c11] 72, own tInt S8 a10 c11 (((Lru.run c l).1).keys), box B7 [.int .i64 (((Lru.access c key).1).room), .slice a4 (((Lru.access c key).1).keys).length c5] 72, own tInt S2 a4 c5 (((Lru.access c key).1).keys), box B1 [.int .i64 c.room, .slice ac_0 c.keys.length cc_0] 72, base w0]
          refine c_seq ?_
          refine c_seq ?_
          refine c_region ?_
          refine o_pure (p_fieldAddr (B := B25) (j := 0) (j' := 1) rfl fo72_1 rfl) rfl rfl rfl ?_
          refine o_pure (p_load (i := 3) (v := .slice asc_0 sc.keys.length csc_0) rfl rfl sh52 rfl) rfl rfl rfl ?_
          refine o_pure (p_len_slice (len := sc.keys.length) rfl rfl Try.underlying52) rfl rfl rfl ?_
          refine o_pure (p_move (v := .int .i64 room) rfl) rfl rfl rfl ?_
          refine o_pure (p_gt (p := (sc.keys.length : Int)) (q := room) rfl rfl) rfl rfl rfl ?_
          refine o_nil ?_
          refine q_then ?_
          refine c_cond (b := decide (room < (sc.keys.length : Int))) rfl (fun hc55 => ?_) (fun hc55 => ?_)
          · simp only [decide_eq_true_eq] at hc55
            refine c_skip ?_
            refine q_then ?_
            refine c_block ?_
            refine c_seq ?_
            refine c_region ?_
            refine o_pure (p_fieldAddr (B := B25) (j := 0) (j' := 1) rfl fo72_1 rfl) rfl rfl rfl ?_
            refine o_pure (p_load (i := 3) (v := .slice asc_0 sc.keys.length csc_0) rfl rfl sh52 rfl) rfl rfl rfl ?_
            refine o_pure (p_len_slice (len := sc.keys.length) rfl rfl Try.underlying52) rfl rfl rfl ?_
            refine o_pure (p_subb (p := (sc.keys.length : Int)) (q := 1) rfl rfl (by omega)) rfl rfl rfl ?_
            refine o_pure (p_assign (v := .int .i64 ((sc.keys.length : Int) - 1)) rfl) rfl rfl rfl ?_
            refine o_nil ?_
            refine q_then ?_
            refine c_seq ?_
            refine c_region ?_
            refine o_pure (p_move (v := .slice aless_ less_.length cless_) rfl) rfl rfl rfl ?_
            refine o_pure (p_fieldAddr (B := B25) (j := 0) (j' := 1) rfl fo72_1 rfl) rfl rfl rfl ?_
            refine o_pure (p_load (i := 3) (v := .slice asc_0 sc.keys.length csc_0) rfl rfl sh52 rfl) rfl rfl rfl ?_
            refine o_pure (p_move (v := .int .i64 ((sc.keys.length : Int) - 1)) rfl) rfl rfl rfl ?_
            refine o_pure (p_indexAddr (L := sc.keys) (T := tInt) (i := ((sc.keys.length : Int) - 1)) rfl rfl (rd_own (i := 1) rfl) Try.underlying52 sz3 (by omega) (by omega)) rfl rfl rfl ?_
            refine o_pure (p_loadE1 (i := ((sc.keys.length : Int) - 1).toNat) (T := tInt) (L := sc.keys) (v := .int .i64 (sc.keys[((sc.keys.length : Int) - 1).toNat])) rfl (rd_own (i := 1) rfl) (by first | assumption | omega) sh3 rfl) rfl rfl rfl ?_
            refine o_buildSlice (m := 1) (T := tInt) (L := [sc.keys[((sc.keys.length : Int) - 1).toNat]]) (vs := [.int .i64 (sc.keys[((sc.keys.length : Int) - 1).toNat])]) rfl rfl rfl rfl Try.underlying52 sz3 (by decide) ze3 rfl (by decide) rfl (fun S56 a57 => ?_)
            refine o_append (i := 1) (L := less_) (M := [sc.keys[((sc.keys.length : Int) - 1).toNat]]) (T := tInt) rfl rfl rfl (rd_own (i := 0) rfl) Try.underlying52 Try.underlying52 (by intro k h; cases h) el3 (by intro z; simp [tInt, one1]) (by decide) (by first | omega | (simp only [List.length_cons, List.length_nil]; omega) | (simp only [List.length_append, List.length_cons, List.length_nil, List.length_take, List.length_drop]; omega)) rfl (fun a59 c60 S61 => ?_)
            refine o_pure (p_assign (v := .slice a59 (less_ ++ [sc.keys[((sc.keys.length : Int) - 1).toNat]]).length c60) rfl) rfl rfl rfl ?_
            refine o_nil ?_
            refine q_then ?_
            refine c_region ?_
            refine o_pure (p_fieldAddr (B := B25) (j := 0) (j' := 1) rfl fo72_1 rfl) rfl rfl rfl ?_
            refine o_pure (p_load (i := 4) (v := .slice asc_0 sc.keys.length csc_0) rfl rfl sh52 rfl) rfl rfl rfl ?_
            refine o_pure (p_move (v := .int .i64 ((sc.keys.length : Int) - 1)) rfl) rfl rfl rfl ?_
            refine o_pure (p_sliceH (L := sc.keys) (T := tInt) (h := ((sc.keys.length : Int) - 1)) rfl rfl Try.underlying52 sz3 (by omega) (by omega) (rd_own (i := 2) rfl)) rfl rfl rfl ?_
            refine o_pure (p_fieldAddr (B := B25) (j := 0) (j' := 1) rfl fo72_1 rfl) rfl rfl rfl ?_
            refine o_shrinkC (i := 2) (hi := ((sc.keys.length : Int) - 1).toNat) (T := tInt) rfl (by omega) ?_
            refine o_store (i := 4) (v := .slice asc_0 (sc.keys.take (((sc.keys.length : Int) - 1).toNat)).length csc_0) (cs' := [.int .i64 sc.room, .slice asc_0 (sc.keys.take (((sc.keys.length : Int) - 1).toNat)).length csc_0]) rfl rfl rfl sz52 rfl rfl rfl ?_
            refine o_nil ?_
            refine q_block_normal ?_
            refine q_round hK54 ((less_ ++ [sc.keys[((sc.keys.length : Int) - 1).toNat]]), a59, c60, S61, (⟨sc.room, (sc.keys.take (((sc.keys.length : Int) - 1).toNat))⟩ : DCache), asc_0, csc_0, Ssc_0) ?_ ?_ ?_ ?_
            · clear hK54
              exact hI.next (by omega) (by omega)
            · (try dsimp only); simp only [List.length_take]; omega
            · exact Sub.cons rfl (Sub.cons rfl (Sub.cons rfl (Sub.cons rfl (Sub.cons rfl (Sub.cons rfl (Sub.cons rfl (Sub.cons rfl (Sub.cons rfl (Sub.cons rfl (Sub.cons rfl (Sub.cons rfl (Sub.cons rfl (Sub.cons rfl (Sub.cons rfl (Sub.cons rfl (Sub.cons rfl (Sub.cons rfl (Sub.cons rfl (Sub.cons rfl (Sub.cons rfl (Sub.cons rfl (Sub.cons rfl (Sub.cons rfl (Sub.nil _))))))))))))))))))))))))
            · exact fun _ hw => HeapIs.pick hw [1, 2, 3, 4, 5, 6, 7, 8, 9, 10, 11, 12, 13, 14] (by decide) rfl
          · simp only [decide_eq_false_iff_not, Int.not_lt] at hc55
            refine c_exit ?_
            refine q_then_exit (q_then_exit (q_block_exit (q_then ?_)))
            refine c_seq ?_
            refine c_region ?_
            refine o_call0 (v := .bool true) rfl (lruBegun_ok ) hf57 (fun _ _ => trivial) rfl ?_
            refine o_pure (p_move (v := .bool true) rfl) rfl rfl rfl ?_
            refine o_unguard 118 rfl rfl ?_
            refine o_pure (p_load_agg (i := 12) (vs := [.int .i64 c.room, .slice ac_0 c.keys.length cc_0]) rfl rfl sh72 rfl rfl) rfl rfl rfl ?_
            refine o_unguard 118 rfl rfl ?_
            refine o_call0 (v := .int .i64 (Lru.check c)) rfl (lcheck_ok c ac_0 cc_0) hf58 (fun w hw => (rd_base (i := 13) rfl hc_0) w hw) rfl ?_
            refine o_unguard 118 rfl rfl ?_
            refine o_pure (p_move (v := .int .i64 (Lru.check c)) rfl) rfl rfl rfl ?_
            refine o_unguard 118 rfl rfl ?_
            refine o_pure (p_eq (p := (Lru.check c)) (q := (Lru.check c)) rfl rfl) rfl rfl rfl ?_
            refine o_pure (p_pick_true (u := .bool ((Lru.check c) == (Lru.check c))) rfl rfl) rfl rfl rfl ?_
            refine o_pure (p_move (v := .bool ((Lru.check c) == (Lru.check c))) rfl) rfl rfl rfl ?_
            refine o_and (p := 130) 6 ((Lru.trace l) == (Lru.trace l)) ?_ ?_ ?_
            · intro hb62 hk
              simp only [beq_iff_eq] at hb62
              refine o_unguard 124 rfl rfl ?_
              refine o_pure (p_move (v := .slice al l.length cl) rfl) rfl rfl rfl ?_
              refine o_unguard 124 rfl rfl ?_
              refine o_call0 (v := .int .i64 (Lru.trace l)) rfl (checkTrace_ok l al cl) hf59 (fun w hw => (rd_base (i := 13) rfl hl) w hw) rfl ?_
              refine o_unguard 124 rfl rfl ?_
              refine o_pure (p_move (v := .slice al l.length cl) rfl) rfl rfl rfl ?_
              refine o_unguard 124 rfl rfl ?_
              refine o_call0 (v := .int .i64 (Lru.trace l)) rfl (traceCheck_ok l al cl) hf44 (fun w hw => (rd_base (i := 13) rfl hl) w hw) rfl ?_
              refine o_unguard 124 rfl rfl ?_
              refine o_pure (p_eq (p := (Lru.trace l)) (q := (Lru.trace l)) rfl rfl) rfl rfl rfl ?_
              refine o_pure (p_pick_true (u := .bool ((Lru.trace l) == (Lru.trace l))) rfl rfl) rfl rfl rfl ?_
              exact o_sub (Sub.cons rfl (Sub.skip rfl (Sub.skip rfl (Sub.skip rfl (Sub.skip rfl (Sub.skip rfl (Sub.skip rfl (Sub.skip rfl (Sub.refl _))))))))) hk
            · intro hb62 hk
              refine o_guard_no rfl 124 rfl rfl rfl rfl rfl ?_
              refine o_guard_no rfl 124 rfl rfl rfl rfl rfl ?_
              refine o_guard_no rfl 124 rfl rfl rfl rfl rfl ?_
              refine o_guard_no rfl 124 rfl rfl rfl rfl rfl ?_
              refine o_guard_no rfl 124 rfl rfl rfl rfl rfl ?_
              refine o_pure (p_pick_false (v := .bool false) rfl rfl) rfl rfl rfl ?_
              exact o_sub (Sub.cons rfl (Sub.skip rfl (Sub.skip rfl (Sub.skip rfl (Sub.skip rfl (Sub.skip rfl (Sub.skip rfl (Sub.skip rfl (Sub.refl _))))))))) hk
            refine o_pure (p_move (v := .bool (((Lru.check c) == (Lru.check c)) && ((Lru.trace l) == (Lru.trace l)))) rfl) rfl rfl rfl ?_
            refine o_and (p := 135) 4 (decide (((Lru.access c key).1) = (⟨0, []⟩ : DCache))) ?_ ?_ ?_
            · intro hb63 hk
              simp only [Bool.and_eq_true, beq_iff_eq] at hb63
              refine o_unguard 131 rfl rfl ?_
              refine o_pure (p_load_agg (i := 10) (vs := [.int .i64 (((Lru.access c key).1).room), .slice a4 (((Lru.access c key).1).keys).length c5]) rfl rfl sh72 rfl rfl) rfl rfl rfl ?_
              refine o_unguard 131 rfl rfl ?_
              refine o_pure (p_load_agg (i := 5) (vs := [.int .i64 0, .slice none 0 0]) rfl rfl sh72 rfl rfl) rfl rfl rfl ?_
              refine o_unguard 131 rfl rfl ?_
              refine o_call0 (v := .bool (decide (((Lru.access c key).1) = (⟨0, []⟩ : DCache)))) rfl (sameCache_ok ((Lru.access c key).1) a4 c5 (⟨0, []⟩ : DCache) none 0) hf60 (fun w hw => ⟨(rd_own (i := 11) rfl) w hw, rd_nil w hw⟩) rfl ?_
              refine o_pure (p_pick_true (u := .bool (decide (((Lru.access c key).1) = (⟨0, []⟩ : DCache)))) rfl rfl) rfl rfl rfl ?_
              exact o_sub (Sub.cons rfl (Sub.skip rfl (Sub.skip rfl (Sub.skip rfl (Sub.skip rfl (Sub.skip rfl (Sub.refl _))))))) hk
            · intro hb63 hk
              refine o_guard_no rfl 131 rfl rfl rfl rfl rfl ?_
              refine o_guard_no rfl 131 rfl rfl rfl rfl rfl ?_
              refine o_guard_no rfl 131 rfl rfl rfl rfl rfl ?_
              refine o_pure (p_pick_false (v := .bool false) rfl rfl) rfl rfl rfl ?_
              exact o_sub (Sub.cons rfl (Sub.skip rfl (Sub.skip rfl (Sub.skip rfl (Sub.skip rfl (Sub.skip rfl (Sub.refl _))))))) hk
            refine o_pure (p_move (v := .bool ((((Lru.check c) == (Lru.check c)) && ((Lru.trace l) == (Lru.trace l))) && (decide (((Lru.access c key).1) = (⟨0, []⟩ : DCache))))) rfl) rfl rfl rfl ?_
            refine o_and (p := 140) 4 (((Lru.access c key).2.1) == false) ?_ ?_ ?_
            · intro hb64 hk
              simp only [Bool.and_eq_true, beq_iff_eq, decide_eq_true_eq] at hb64
              refine o_unguard 136 rfl rfl ?_
              refine o_pure (p_move (v := .bool ((Lru.access c key).2.1)) rfl) rfl rfl rfl ?_
              refine o_unguard 136 rfl rfl ?_
              refine o_pure (p_move (v := .bool false) rfl) rfl rfl rfl ?_
              refine o_unguard 136 rfl rfl ?_
              refine o_pure (p_eqBool (b := ((Lru.access c key).2.1)) (c := false) rfl rfl Try.underlying4) rfl rfl rfl ?_
              refine o_pure (p_pick_true (u := .bool (((Lru.access c key).2.1) == false)) rfl rfl) rfl rfl rfl ?_
              exact o_sub (Sub.cons rfl (Sub.skip rfl (Sub.skip rfl (Sub.skip rfl (Sub.skip rfl (Sub.skip rfl (Sub.refl _))))))) hk
            · intro hb64 hk
              refine o_guard_no rfl 136 rfl rfl rfl rfl rfl ?_
              refine o_guard_no rfl 136 rfl rfl rfl rfl rfl ?_
              refine o_guard_no rfl 136 rfl rfl rfl rfl rfl ?_
              refine o_pure (p_pick_false (v := .bool false) rfl rfl) rfl rfl rfl ?_
              exact o_sub (Sub.cons rfl (Sub.skip rfl (Sub.skip rfl (Sub.skip rfl (Sub.skip rfl (Sub.skip rfl (Sub.refl _))))))) hk
            refine o_pure (p_move (v := .bool (((((Lru.check c) == (Lru.check c)) && ((Lru.trace l) == (Lru.trace l))) && (decide (((Lru.access c key).1) = (⟨0, []⟩ : DCache)))) && (((Lru.access c key).2.1) == false))) rfl) rfl rfl rfl ?_
            refine o_and (p := 145) 4 (((Lru.access c key).2.2) == 0) ?_ ?_ ?_
            · intro hb65 hk
              simp only [Bool.and_eq_true, beq_iff_eq, decide_eq_true_eq] at hb65
              refine o_unguard 141 rfl rfl ?_
              refine o_pure (p_move (v := .int .i64 ((Lru.access c key).2.2)) rfl) rfl rfl rfl ?_
              refine o_unguard 141 rfl rfl ?_
              refine o_pure (p_move (v := .int .i64 0) rfl) rfl rfl rfl ?_
              refine o_unguard 141 rfl rfl ?_
              refine o_pure (p_eq (p := ((Lru.access c key).2.2)) (q := 0) rfl rfl) rfl rfl rfl ?_
              refine o_pure (p_pick_true (u := .bool (((Lru.access c key).2.2) == 0)) rfl rfl) rfl rfl rfl ?_
              exact o_sub (Sub.cons rfl (Sub.skip rfl (Sub.skip rfl (Sub.skip rfl (Sub.skip rfl (Sub.skip rfl (Sub.refl _))))))) hk
            · intro hb65 hk
              refine o_guard_no rfl 141 rfl rfl rfl rfl rfl ?_
              refine o_guard_no rfl 141 rfl rfl rfl rfl rfl ?_
              refine o_guard_no rfl 141 rfl rfl rfl rfl rfl ?_
              refine o_pure (p_pick_false (v := .bool false) rfl rfl) rfl rfl rfl ?_
              exact o_sub (Sub.cons rfl (Sub.skip rfl (Sub.skip rfl (Sub.skip rfl (Sub.skip rfl (Sub.skip rfl (Sub.refl _))))))) hk
            refine o_pure (p_move (v := .bool ((((((Lru.check c) == (Lru.check c)) && ((Lru.trace l) == (Lru.trace l))) && (decide (((Lru.access c key).1) = (⟨0, []⟩ : DCache)))) && (((Lru.access c key).2.1) == false)) && (((Lru.access c key).2.2) == 0))) rfl) rfl rfl rfl ?_
            refine o_and (p := 150) 4 ((Lru.accessErr c key) == 3) ?_ ?_ ?_
            · intro hb66 hk
              simp only [Bool.and_eq_true, beq_iff_eq, decide_eq_true_eq] at hb66
              refine o_unguard 146 rfl rfl ?_
              refine o_pure (p_move (v := .int .i64 (Lru.accessErr c key)) rfl) rfl rfl rfl ?_
              refine o_unguard 146 rfl rfl ?_
              refine o_pure (p_move (v := .int .i64 3) rfl) rfl rfl rfl ?_
              refine o_unguard 146 rfl rfl ?_
              refine o_pure (p_eq (p := (Lru.accessErr c key)) (q := 3) rfl rfl) rfl rfl rfl ?_
              refine o_pure (p_pick_true (u := .bool ((Lru.accessErr c key) == 3)) rfl rfl) rfl rfl rfl ?_
              exact o_sub (Sub.cons rfl (Sub.skip rfl (Sub.skip rfl (Sub.skip rfl (Sub.skip rfl (Sub.skip rfl (Sub.refl _))))))) hk
            · intro hb66 hk
              refine o_guard_no rfl 146 rfl rfl rfl rfl rfl ?_
              refine o_guard_no rfl 146 rfl rfl rfl rfl rfl ?_
              refine o_guard_no rfl 146 rfl rfl rfl rfl rfl ?_
              refine o_pure (p_pick_false (v := .bool false) rfl rfl) rfl rfl rfl ?_
              exact o_sub (Sub.cons rfl (Sub.skip rfl (Sub.skip rfl (Sub.skip rfl (Sub.skip rfl (Sub.skip rfl (Sub.refl _))))))) hk
            refine o_pure (p_move (v := .bool (((((((Lru.check c) == (Lru.check c)) && ((Lru.trace l) == (Lru.trace l))) && (decide (((Lru.access c key).1) = (⟨0, []⟩ : DCache)))) && (((Lru.access c key).2.1) == false)) && (((Lru.access c key).2.2) == 0)) && ((Lru.accessErr c key) == 3))) rfl) rfl rfl rfl ?_
            refine o_and (p := 155) 4 (decide (((Lru.run c l).1) = ((Lru.runGo c 0 l).1))) ?_ ?_ ?_
            · intro hb67 hk
              simp only [Bool.and_eq_true, beq_iff_eq, decide_eq_true_eq] at hb67
              refine o_unguard 151 rfl rfl ?_
              refine o_pure (p_load_agg (i := 8) (vs := [.int .i64 (((Lru.run c l).1).room), .slice a10 (((Lru.run c l).1).keys).length c11]) rfl rfl sh72 rfl rfl) rfl rfl rfl ?_
              refine o_unguard 151 rfl rfl ?_
              refine o_pure (p_load_agg (i := 4) (vs := [.int .i64 (((Lru.runGo c 0 l).1).room), .slice a32 (((Lru.runGo c 0 l).1).keys).length c33]) rfl rfl sh72 rfl rfl) rfl rfl rfl ?_
              refine o_unguard 151 rfl rfl ?_
              refine o_call0 (v := .bool (decide (((Lru.run c l).1) = ((Lru.runGo c 0 l).1)))) rfl (sameCache_ok ((Lru.run c l).1) a10 c11 ((Lru.runGo c 0 l).1) a32 c33) hf60 (fun w hw => ⟨(rd_own (i := 9) rfl) w hw, (rd_loose (i := 2) rfl (fun hφ => by obtain ⟨h1, h2, h3⟩ := hφ; intro w hw; have g1 : a32 = ac_0 := h1; have g2 : c33 = cc_0 := h2; have g3 : ((Lru.runGo c 0 l).1).keys = c.keys := h3; rw [g1, g2, g3]; exact (rd_base (i := 13) rfl hc_0) w hw)) w hw⟩) rfl ?_
              refine o_pure (p_pick_true (u := .bool (decide (((Lru.run c l).1) = ((Lru.runGo c 0 l).1)))) rfl rfl) rfl rfl rfl ?_
              exact o_sub (Sub.cons rfl (Sub.skip rfl (Sub.skip rfl (Sub.skip rfl (Sub.skip rfl (Sub.skip rfl (Sub.refl _))))))) hk
            · intro hb67 hk
              refine o_guard_no rfl 151 rfl rfl rfl rfl rfl ?_
              refine o_guard_no rfl 151 rfl rfl rfl rfl rfl ?_
              refine o_guard_no rfl 151 rfl rfl rfl rfl rfl ?_
              refine o_pure (p_pick_false (v := .bool false) rfl rfl) rfl rfl rfl ?_
              exact o_sub (Sub.cons rfl (Sub.skip rfl (Sub.skip rfl (Sub.skip rfl (Sub.skip rfl (Sub.skip rfl (Sub.refl _))))))) hk
            refine o_pure (p_move (v := .bool ((((((((Lru.check c) == (Lru.check c)) && ((Lru.trace l) == (Lru.trace l))) && (decide (((Lru.access c key).1) = (⟨0, []⟩ : DCache)))) && (((Lru.access c key).2.1) == false)) && (((Lru.access c key).2.2) == 0)) && ((Lru.accessErr c key) == 3)) && (decide (((Lru.run c l).1) = ((Lru.runGo c 0 l).1))))) rfl) rfl rfl rfl ?_
            refine o_and (p := 160) 4 (((Lru.run c l).2) == ((Lru.runGo c 0 l).2)) ?_ ?_ ?_
            · intro hb68 hk
              simp only [Bool.and_eq_true, beq_iff_eq, decide_eq_true_eq] at hb68
              refine o_unguard 156 rfl rfl ?_
              refine o_pure (p_move (v := .int .i64 ((Lru.run c l).2)) rfl) rfl rfl rfl ?_
              refine o_unguard 156 rfl rfl ?_
              refine o_pure (p_move (v := .int .i64 ((Lru.runGo c 0 l).2)) rfl) rfl rfl rfl ?_
              refine o_unguard 156 rfl rfl ?_
              refine o_pure (p_eq (p := ((Lru.run c l).2)) (q := ((Lru.runGo c 0 l).2)) rfl rfl) rfl rfl rfl ?_
              refine o_pure (p_pick_true (u := .bool (((Lru.run c l).2) == ((Lru.runGo c 0 l).2))) rfl rfl) rfl rfl rfl ?_
              exact o_sub (Sub.cons rfl (Sub.skip rfl (Sub.skip rfl (Sub.skip rfl (Sub.skip rfl (Sub.skip rfl (Sub.refl _))))))) hk
            · intro hb68 hk
              refine o_guard_no rfl 156 rfl rfl rfl rfl rfl ?_
              refine o_guard_no rfl 156 rfl rfl rfl rfl rfl ?_
              refine o_guard_no rfl 156 rfl rfl rfl rfl rfl ?_
              refine o_pure (p_pick_false (v := .bool false) rfl rfl) rfl rfl rfl ?_
              exact o_sub (Sub.cons rfl (Sub.skip rfl (Sub.skip rfl (Sub.skip rfl (Sub.skip rfl (Sub.skip rfl (Sub.refl _))))))) hk
            refine o_pure (p_move (v := .bool (((((((((Lru.check c) == (Lru.check c)) && ((Lru.trace l) == (Lru.trace l))) && (decide (((Lru.access c key).1) = (⟨0, []⟩ : DCache)))) && (((Lru.access c key).2.1) == false)) && (((Lru.access c key).2.2) == 0)) && ((Lru.accessErr c key) == 3)) && (decide (((Lru.run c l).1) = ((Lru.runGo c 0 l).1)))) && (((Lru.run c l).2) == ((Lru.runGo c 0 l).2)))) rfl) rfl rfl rfl ?_
            refine o_and (p := 165) 4 ((Lru.runErr c l) == (Lru.trace l)) ?_ ?_ ?_
            · intro hb69 hk
              simp only [Bool.and_eq_true, beq_iff_eq, decide_eq_true_eq] at hb69
              refine o_unguard 161 rfl rfl ?_
              refine o_pure (p_move (v := .int .i64 (Lru.runErr c l)) rfl) rfl rfl rfl ?_
              refine o_unguard 161 rfl rfl ?_
              refine o_pure (p_move (v := .int .i64 (Lru.trace l)) rfl) rfl rfl rfl ?_
              refine o_unguard 161 rfl rfl ?_
              refine o_pure (p_eq (p := (Lru.runErr c l)) (q := (Lru.trace l)) rfl rfl) rfl rfl rfl ?_
              refine o_pure (p_pick_true (u := .bool ((Lru.runErr c l) == (Lru.trace l))) rfl rfl) rfl rfl rfl ?_
              exact o_sub (Sub.cons rfl (Sub.skip rfl (Sub.skip rfl (Sub.skip rfl (Sub.skip rfl (Sub.skip rfl (Sub.refl _))))))) hk
            · intro hb69 hk
              refine o_guard_no rfl 161 rfl rfl rfl rfl rfl ?_
              refine o_guard_no rfl 161 rfl rfl rfl rfl rfl ?_
              refine o_guard_no rfl 161 rfl rfl rfl rfl rfl ?_
              refine o_pure (p_pick_false (v := .bool false) rfl rfl) rfl rfl rfl ?_
              exact o_sub (Sub.cons rfl (Sub.skip rfl (Sub.skip rfl (Sub.skip rfl (Sub.skip rfl (Sub.skip rfl (Sub.refl _))))))) hk
            refine o_pure (p_move (v := .bool ((((((((((Lru.check c) == (Lru.check c)) && ((Lru.trace l) == (Lru.trace l))) && (decide (((Lru.access c key).1) = (⟨0, []⟩ : DCache)))) && (((Lru.access c key).2.1) == false)) && (((Lru.access c key).2.2) == 0)) && ((Lru.accessErr c key) == 3)) && (decide (((Lru.run c l).1) = ((Lru.runGo c 0 l).1)))) && (((Lru.run c l).2) == ((Lru.runGo c 0 l).2))) && ((Lru.runErr c l) == (Lru.trace l)))) rfl) rfl rfl rfl ?_
            refine o_and (p := 170) 4 (decide (((Lru.resize c room).1) = sc)) ?_ ?_ ?_
            · intro hb70 hk
              simp only [Bool.and_eq_true, beq_iff_eq, decide_eq_true_eq] at hb70
              refine o_unguard 166 rfl rfl ?_
              refine o_pure (p_load_agg (i := 6) (vs := [.int .i64 (((Lru.resize c room).1).room), .slice a16 (((Lru.resize c room).1).keys).length c17]) rfl rfl sh72 rfl rfl) rfl rfl rfl ?_
              refine o_unguard 166 rfl rfl ?_
              refine o_pure (p_load_agg (i := 3) (vs := [.int .i64 sc.room, .slice asc_0 sc.keys.length csc_0]) rfl rfl sh72 rfl rfl) rfl rfl rfl ?_
              refine o_unguard 166 rfl rfl ?_
              refine o_call0 (v := .bool (decide (((Lru.resize c room).1) = sc))) rfl (sameCache_ok ((Lru.resize c room).1) a16 c17 sc asc_0 csc_0) hf60 (fun w hw => ⟨(rd_ent (i := 7) rfl (fun w h => h.1)) w hw, (rd_own (i := 1) rfl) w hw⟩) rfl ?_
              refine o_pure (p_pick_true (u := .bool (decide (((Lru.resize c room).1) = sc))) rfl rfl) rfl rfl rfl ?_
              exact o_sub (Sub.cons rfl (Sub.skip rfl (Sub.skip rfl (Sub.skip rfl (Sub.skip rfl (Sub.skip rfl (Sub.refl _))))))) hk
            · intro hb70 hk
              refine o_guard_no rfl 166 rfl rfl rfl rfl rfl ?_
              refine o_guard_no rfl 166 rfl rfl rfl rfl rfl ?_
              refine o_guard_no rfl 166 rfl rfl rfl rfl rfl ?_
              refine o_pure (p_pick_false (v := .bool false) rfl rfl) rfl rfl rfl ?_
              exact o_sub (Sub.cons rfl (Sub.skip rfl (Sub.skip rfl (Sub.skip rfl (Sub.skip rfl (Sub.skip rfl (Sub.refl _))))))) hk
            refine o_pure (p_move (v := .bool (((((((((((Lru.check c) == (Lru.check c)) && ((Lru.trace l) == (Lru.trace l))) && (decide (((Lru.access c key).1) = (⟨0, []⟩ : DCache)))) && (((Lru.access c key).2.1) == false)) && (((Lru.access c key).2.2) == 0)) && ((Lru.accessErr c key) == 3)) && (decide (((Lru.run c l).1) = ((Lru.runGo c 0 l).1)))) && (((Lru.run c l).2) == ((Lru.runGo c 0 l).2))) && ((Lru.runErr c l) == (Lru.trace l))) && (decide (((Lru.resize c room).1) = sc)))) rfl) rfl rfl rfl ?_
            refine o_and (p := 175) 4 (Ref.sameInts ((Lru.resize c room).2) less_) ?_ ?_ ?_
            · intro hb71 hk
              simp only [Bool.and_eq_true, beq_iff_eq, decide_eq_true_eq] at hb71
              refine o_unguard 171 rfl rfl ?_
              refine o_pure (p_move (v := .slice a18 ((Lru.resize c room).2).length c19) rfl) rfl rfl rfl ?_
              refine o_unguard 171 rfl rfl ?_
              refine o_pure (p_move (v := .slice aless_ less_.length cless_) rfl) rfl rfl rfl ?_
              refine o_unguard 171 rfl rfl ?_
              refine o_call0 (v := .bool (Ref.sameInts ((Lru.resize c room).2) less_)) rfl (sameInts_ok ((Lru.resize c room).2) a18 c19 less_ aless_ cless_) hf47 (fun w hw => ⟨(rd_ent (i := 7) rfl (fun w h => h.2)) w hw, (rd_own (i := 0) rfl) w hw⟩) rfl ?_
              refine o_pure (p_pick_true (u := .bool (Ref.sameInts ((Lru.resize c room).2) less_)) rfl rfl) rfl rfl rfl ?_
              exact o_sub (Sub.cons rfl (Sub.skip rfl (Sub.skip rfl (Sub.skip rfl (Sub.skip rfl (Sub.skip rfl (Sub.refl _))))))) hk
            · intro hb71 hk
              refine o_guard_no rfl 171 rfl rfl rfl rfl rfl ?_
              refine o_guard_no rfl 171 rfl rfl rfl rfl rfl ?_
              refine o_guard_no rfl 171 rfl rfl rfl rfl rfl ?_
              refine o_pure (p_pick_false (v := .bool false) rfl rfl) rfl rfl rfl ?_
              exact o_sub (Sub.cons rfl (Sub.skip rfl (Sub.skip rfl (Sub.skip rfl (Sub.skip rfl (Sub.skip rfl (Sub.refl _))))))) hk
            refine o_pure (p_move (v := .bool ((((((((((((Lru.check c) == (Lru.check c)) && ((Lru.trace l) == (Lru.trace l))) && (decide (((Lru.access c key).1) = (⟨0, []⟩ : DCache)))) && (((Lru.access c key).2.1) == false)) && (((Lru.access c key).2.2) == 0)) && ((Lru.accessErr c key) == 3)) && (decide (((Lru.run c l).1) = ((Lru.runGo c 0 l).1)))) && (((Lru.run c l).2) == ((Lru.runGo c 0 l).2))) && ((Lru.runErr c l) == (Lru.trace l))) && (decide (((Lru.resize c room).1) = sc))) && (Ref.sameInts ((Lru.resize c room).2) less_))) rfl) rfl rfl rfl ?_
            refine o_and (p := 180) 4 ((Lru.sizeErr c room) == (Lru.check c)) ?_ ?_ ?_
            · intro hb72 hk
              simp only [Bool.and_eq_true, beq_iff_eq, decide_eq_true_eq] at hb72
              refine o_unguard 176 rfl rfl ?_
              refine o_pure (p_move (v := .int .i64 (Lru.sizeErr c room)) rfl) rfl rfl rfl ?_
              refine o_unguard 176 rfl rfl ?_
              refine o_pure (p_move (v := .int .i64 (Lru.check c)) rfl) rfl rfl rfl ?_
              refine o_unguard 176 rfl rfl ?_
              refine o_pure (p_eq (p := (Lru.sizeErr c room)) (q := (Lru.check c)) rfl rfl) rfl rfl rfl ?_
              refine o_pure (p_pick_true (u := .bool ((Lru.sizeErr c room) == (Lru.check c))) rfl rfl) rfl rfl rfl ?_
              exact o_sub (Sub.cons rfl (Sub.skip rfl (Sub.skip rfl (Sub.skip rfl (Sub.skip rfl (Sub.skip rfl (Sub.refl _))))))) hk
            · intro hb72 hk
              refine o_guard_no rfl 176 rfl rfl rfl rfl rfl ?_
              refine o_guard_no rfl 176 rfl rfl rfl rfl rfl ?_
              refine o_guard_no rfl 176 rfl rfl rfl rfl rfl ?_
              refine o_pure (p_pick_false (v := .bool false) rfl rfl) rfl rfl rfl ?_
              exact o_sub (Sub.cons rfl (Sub.skip rfl (Sub.skip rfl (Sub.skip rfl (Sub.skip rfl (Sub.skip rfl (Sub.refl _))))))) hk
            refine o_pure (p_assign (v := .bool (((((((((((((Lru.check c) == (Lru.check c)) && ((Lru.trace l) == (Lru.trace l))) && (decide (((Lru.access c key).1) = (⟨0, []⟩ : DCache)))) && (((Lru.access c key).2.1) == false)) && (((Lru.access c key).2.2) == 0)) && ((Lru.accessErr c key) == 3)) && (decide (((Lru.run c l).1) = ((Lru.runGo c 0 l).1)))) && (((Lru.run c l).2) == ((Lru.runGo c 0 l).2))) && ((Lru.runErr c l) == (Lru.trace l))) && (decide (((Lru.resize c room).1) = sc))) && (Ref.sameInts ((Lru.resize c room).2) less_)) && ((Lru.sizeErr c room) == (Lru.check c)))) rfl) rfl rfl rfl ?_
            refine o_nil ?_
            refine q_then ?_
            refine c_ret ?_
            have hr0 : ((((((((((((((Lru.check c) == (Lru.check c)) && ((Lru.trace l) == (Lru.trace l))) && (decide (((Lru.access c key).1) = (⟨0, []⟩ : DCache)))) && (((Lru.access c key).2.1) == false)) && (((Lru.access c key).2.2) == 0)) && ((Lru.accessErr c key) == 3)) && (decide (((Lru.run c l).1) = ((Lru.runGo c 0 l).1)))) && (((Lru.run c l).2) == ((Lru.runGo c 0 l).2))) && ((Lru.runErr c l) == (Lru.trace l))) && (decide (((Lru.resize c room).1) = sc))) && (Ref.sameInts ((Lru.resize c room).2) less_)) && ((Lru.sizeErr c room) == (Lru.check c))) : Bool) = true := by
              rcases Lru.acc_num c key with ⟨a0, a1, a2⟩ | ⟨a0, a3, a1, a2⟩ | ⟨a0, a3, a1, a2⟩ <;> rcases Lru.run_cases c l with ⟨b0, b1, b2⟩ | ⟨b0, b3, b1, b2⟩ | ⟨b0, b3, b1, b2⟩ <;> rcases Lru.size_num c room with ⟨s0, s1, s2⟩ | ⟨s0, s3, s1, s2⟩ | ⟨s0, s3, s1, s2⟩ <;> first | (exfalso; omega) | (rw [a1, a2, b1, b2, s1, s2]; first | (simp [Lru.zero, Ref.sameInts, a0]; done) | (simp [Lru.zero, Ref.sameInts, a0, b3]; done) | (obtain ⟨hz1, hz2⟩ := hI.done (by omega); rw [hz1, hz2]; first | (simp [Lru.zero, Ref.sameInts, a0]; done) | (simp [Lru.zero, Ref.sameInts, a0, b3]; done)))
            refine q_end0 (v := .bool (((((((((((((Lru.check c) == (Lru.check c)) && ((Lru.trace l) == (Lru.trace l))) && (decide (((Lru.access c key).1) = (⟨0, []⟩ : DCache)))) && (((Lru.access c key).2.1) == false)) && (((Lru.access c key).2.2) == 0)) && ((Lru.accessErr c key) == 3)) && (decide (((Lru.run c l).1) = ((Lru.runGo c 0 l).1)))) && (((Lru.run c l).2) == ((Lru.runGo c 0 l).2))) && ((Lru.runErr c l) == (Lru.trace l))) && (decide (((Lru.resize c room).1) = sc))) && (Ref.sameInts ((Lru.resize c room).2) less_)) && ((Lru.sizeErr c room) == (Lru.check c)))) (rt1 rfl (r_tmp rfl)) (i := 13) rfl ?_
            exact (by have hcc := congrArg (fun (y0 : Bool) => (.bool y0 : Value)) hr0; exact hcc)
      · simp only [beq_eq_false_iff_ne, ne_eq] at hc29
        refine c_skip ?_
        refine q_then ?_
        refine c_seq ?_
        refine c_region ?_
        refine o_pure (p_move (v := .int .i64 room) rfl) rfl rfl rfl ?_
        refine o_pure (p_lt (p := room) (q := 1) rfl rfl) rfl rfl rfl ?_
        refine o_pure (p_move (v := .bool (decide (room < 1))) rfl) rfl rfl rfl ?_
        refine o_or (p := 88) 3 (decide (40 < room)) ?_ ?_ ?_
        · intro hb73 hk
          simp only [decide_eq_false_iff_not, Int.not_lt] at hb73
          refine o_unguard 85 rfl rfl ?_
          refine o_pure (p_move (v := .int .i64 room) rfl) rfl rfl rfl ?_
          refine o_unguard 85 rfl rfl ?_
          refine o_pure (p_gt (p := room) (q := 40) rfl rfl) rfl rfl rfl ?_
          refine o_pure (p_pick_false (v := .bool (decide (40 < room))) rfl rfl) rfl rfl rfl ?_
          exact o_sub (Sub.cons rfl (Sub.skip rfl (Sub.skip rfl (Sub.skip rfl (Sub.skip rfl (Sub.refl _)))))) hk
        · intro hb73 hk
          refine o_guard_no rfl 85 rfl rfl rfl rfl rfl ?_
          refine o_guard_no rfl 85 rfl rfl rfl rfl rfl ?_
          refine o_pure (p_pick_true (u := .bool true) rfl rfl) rfl rfl rfl ?_
          exact o_sub (Sub.cons rfl (Sub.skip rfl (Sub.skip rfl (Sub.skip rfl (Sub.skip rfl (Sub.refl _)))))) hk
        refine o_nil ?_
        refine q_then ?_
        refine c_cond (b := (decide (room < 1) || decide (40 < room))) rfl (fun hc74 => ?_) (fun hc74 => ?_)
        · simp only [Bool.or_eq_true, decide_eq_true_eq] at hc74
          refine c_region ?_
          refine o_pure (p_assign (v := .int .i64 3) rfl) rfl rfl rfl ?_
          refine o_nil ?_
          refine q_then ?_
          refine c_seq ?_
          refine c_region ?_
          refine o_call0 (v := .bool true) rfl (lruBegun_ok ) hf57 (fun _ _ => trivial) rfl ?_
          refine o_pure (p_move (v := .bool true) rfl) rfl rfl rfl ?_
          refine o_unguard 118 rfl rfl ?_
          refine o_pure (p_load_agg (i := 9) (vs := [.int .i64 c.room, .slice ac_0 c.keys.length cc_0]) rfl rfl sh72 rfl rfl) rfl rfl rfl ?_
          refine o_unguard 118 rfl rfl ?_
          refine o_call0 (v := .int .i64 (Lru.check c)) rfl (lcheck_ok c ac_0 cc_0) hf58 (fun w hw => (rd_base (i := 10) rfl hc_0) w hw) rfl ?_
          refine o_unguard 118 rfl rfl ?_
          refine o_pure (p_move (v := .int .i64 (Lru.check c)) rfl) rfl rfl rfl ?_
          refine o_unguard 118 rfl rfl ?_
          refine o_pure (p_eq (p := (Lru.check c)) (q := (Lru.check c)) rfl rfl) rfl rfl rfl ?_
          refine o_pure (p_pick_true (u := .bool ((Lru.check c) == (Lru.check c))) rfl rfl) rfl rfl rfl ?_
          refine o_pure (p_move (v := .bool ((Lru.check c) == (Lru.check c))) rfl) rfl rfl rfl ?_
          refine o_and (p := 130) 6 ((Lru.trace l) == (Lru.trace l)) ?_ ?_ ?_
          · intro hb75 hk
            simp only [beq_iff_eq] at hb75
            refine o_unguard 124 rfl rfl ?_
            refine o_pure (p_move (v := .slice al l.length cl) rfl) rfl rfl rfl ?_
            refine o_unguard 124 rfl rfl ?_
            refine o_call0 (v := .int .i64 (Lru.trace l)) rfl (checkTrace_ok l al cl) hf59 (fun w hw => (rd_base (i := 10) rfl hl) w hw) rfl ?_
            refine o_unguard 124 rfl rfl ?_
            refine o_pure (p_move (v := .slice al l.length cl) rfl) rfl rfl rfl ?_
            refine o_unguard 124 rfl rfl ?_
            refine o_call0 (v := .int .i64 (Lru.trace l)) rfl (traceCheck_ok l al cl) hf44 (fun w hw => (rd_base (i := 10) rfl hl) w hw) rfl ?_
            refine o_unguard 124 rfl rfl ?_
            refine o_pure (p_eq (p := (Lru.trace l)) (q := (Lru.trace l)) rfl rfl) rfl rfl rfl ?_
            refine o_pure (p_pick_true (u := .bool ((Lru.trace l) == (Lru.trace l))) rfl rfl) rfl rfl rfl ?_
            exact o_sub (Sub.cons rfl (Sub.skip rfl (Sub.skip rfl (Sub.skip rfl (Sub.skip rfl (Sub.skip rfl (Sub.skip rfl (Sub.skip rfl (Sub.refl _))))))))) hk
          · intro hb75 hk
            refine o_guard_no rfl 124 rfl rfl rfl rfl rfl ?_
            refine o_guard_no rfl 124 rfl rfl rfl rfl rfl ?_
            refine o_guard_no rfl 124 rfl rfl rfl rfl rfl ?_
            refine o_guard_no rfl 124 rfl rfl rfl rfl rfl ?_
            refine o_guard_no rfl 124 rfl rfl rfl rfl rfl ?_
            refine o_pure (p_pick_false (v := .bool false) rfl rfl) rfl rfl rfl ?_
            exact o_sub (Sub.cons rfl (Sub.skip rfl (Sub.skip rfl (Sub.skip rfl (Sub.skip rfl (Sub.skip rfl (Sub.skip rfl (Sub.skip rfl (Sub.refl _))))))))) hk
          refine o_pure (p_move (v := .bool (((Lru.check c) == (Lru.check c)) && ((Lru.trace l) == (Lru.trace l)))) rfl) rfl rfl rfl ?_
          refine o_and (p := 135) 4 (decide (((Lru.access c key).1) = (⟨0, []⟩ : DCache))) ?_ ?_ ?_
          · intro hb76 hk
            simp only [Bool.and_eq_true, beq_iff_eq] at hb76
            refine o_unguard 131 rfl rfl ?_
            refine o_pure (p_load_agg (i := 7) (vs := [.int .i64 (((Lru.access c key).1).room), .slice a4 (((Lru.access c key).1).keys).length c5]) rfl rfl sh72 rfl rfl) rfl rfl rfl ?_
            refine o_unguard 131 rfl rfl ?_
            refine o_pure (p_load_agg (i := 2) (vs := [.int .i64 0, .slice none 0 0]) rfl rfl sh72 rfl rfl) rfl rfl rfl ?_
            refine o_unguard 131 rfl rfl ?_
            refine o_call0 (v := .bool (decide (((Lru.access c key).1) = (⟨0, []⟩ : DCache)))) rfl (sameCache_ok ((Lru.access c key).1) a4 c5 (⟨0, []⟩ : DCache) none 0) hf60 (fun w hw => ⟨(rd_own (i := 8) rfl) w hw, rd_nil w hw⟩) rfl ?_
            refine o_pure (p_pick_true (u := .bool (decide (((Lru.access c key).1) = (⟨0, []⟩ : DCache)))) rfl rfl) rfl rfl rfl ?_
            exact o_sub (Sub.cons rfl (Sub.skip rfl (Sub.skip rfl (Sub.skip rfl (Sub.skip rfl (Sub.skip rfl (Sub.refl _))))))) hk
          · intro hb76 hk
            refine o_guard_no rfl 131 rfl rfl rfl rfl rfl ?_
            refine o_guard_no rfl 131 rfl rfl rfl rfl rfl ?_
            refine o_guard_no rfl 131 rfl rfl rfl rfl rfl ?_
            refine o_pure (p_pick_false (v := .bool false) rfl rfl) rfl rfl rfl ?_
            exact o_sub (Sub.cons rfl (Sub.skip rfl (Sub.skip rfl (Sub.skip rfl (Sub.skip rfl (Sub.skip rfl (Sub.refl _))))))) hk
          refine o_pure (p_move (v := .bool ((((Lru.check c) == (Lru.check c)) && ((Lru.trace l) == (Lru.trace l))) && (decide (((Lru.access c key).1) = (⟨0, []⟩ : DCache))))) rfl) rfl rfl rfl ?_
          refine o_and (p := 140) 4 (((Lru.access c key).2.1) == false) ?_ ?_ ?_
          · intro hb77 hk
            simp only [Bool.and_eq_true, beq_iff_eq, decide_eq_true_eq] at hb77
            refine o_unguard 136 rfl rfl ?_
            refine o_pure (p_move (v := .bool ((Lru.access c key).2.1)) rfl) rfl rfl rfl ?_
            refine o_unguard 136 rfl rfl ?_
            refine o_pure (p_move (v := .bool false) rfl) rfl rfl rfl ?_
            refine o_unguard 136 rfl rfl ?_
            refine o_pure (p_eqBool (b := ((Lru.access c key).2.1)) (c := false) rfl rfl Try.underlying4) rfl rfl rfl ?_
            refine o_pure (p_pick_true (u := .bool (((Lru.access c key).2.1) == false)) rfl rfl) rfl rfl rfl ?_
            exact o_sub (Sub.cons rfl (Sub.skip rfl (Sub.skip rfl (Sub.skip rfl (Sub.skip rfl (Sub.skip rfl (Sub.refl _))))))) hk
          · intro hb77 hk
            refine o_guard_no rfl 136 rfl rfl rfl rfl rfl ?_
            refine o_guard_no rfl 136 rfl rfl rfl rfl rfl ?_
            refine o_guard_no rfl 136 rfl rfl rfl rfl rfl ?_
            refine o_pure (p_pick_false (v := .bool false) rfl rfl) rfl rfl rfl ?_
            exact o_sub (Sub.cons rfl (Sub.skip rfl (Sub.skip rfl (Sub.skip rfl (Sub.skip rfl (Sub.skip rfl (Sub.refl _))))))) hk
          refine o_pure (p_move (v := .bool (((((Lru.check c) == (Lru.check c)) && ((Lru.trace l) == (Lru.trace l))) && (decide (((Lru.access c key).1) = (⟨0, []⟩ : DCache)))) && (((Lru.access c key).2.1) == false))) rfl) rfl rfl rfl ?_
          refine o_and (p := 145) 4 (((Lru.access c key).2.2) == 0) ?_ ?_ ?_
          · intro hb78 hk
            simp only [Bool.and_eq_true, beq_iff_eq, decide_eq_true_eq] at hb78
            refine o_unguard 141 rfl rfl ?_
            refine o_pure (p_move (v := .int .i64 ((Lru.access c key).2.2)) rfl) rfl rfl rfl ?_
            refine o_unguard 141 rfl rfl ?_
            refine o_pure (p_move (v := .int .i64 0) rfl) rfl rfl rfl ?_
            refine o_unguard 141 rfl rfl ?_
            refine o_pure (p_eq (p := ((Lru.access c key).2.2)) (q := 0) rfl rfl) rfl rfl rfl ?_
            refine o_pure (p_pick_true (u := .bool (((Lru.access c key).2.2) == 0)) rfl rfl) rfl rfl rfl ?_
            exact o_sub (Sub.cons rfl (Sub.skip rfl (Sub.skip rfl (Sub.skip rfl (Sub.skip rfl (Sub.skip rfl (Sub.refl _))))))) hk
          · intro hb78 hk
            refine o_guard_no rfl 141 rfl rfl rfl rfl rfl ?_
            refine o_guard_no rfl 141 rfl rfl rfl rfl rfl ?_
            refine o_guard_no rfl 141 rfl rfl rfl rfl rfl ?_
            refine o_pure (p_pick_false (v := .bool false) rfl rfl) rfl rfl rfl ?_
            exact o_sub (Sub.cons rfl (Sub.skip rfl (Sub.skip rfl (Sub.skip rfl (Sub.skip rfl (Sub.skip rfl (Sub.refl _))))))) hk
          refine o_pure (p_move (v := .bool ((((((Lru.check c) == (Lru.check c)) && ((Lru.trace l) == (Lru.trace l))) && (decide (((Lru.access c key).1) = (⟨0, []⟩ : DCache)))) && (((Lru.access c key).2.1) == false)) && (((Lru.access c key).2.2) == 0))) rfl) rfl rfl rfl ?_
          refine o_and (p := 150) 4 ((Lru.accessErr c key) == 3) ?_ ?_ ?_
          · intro hb79 hk
            simp only [Bool.and_eq_true, beq_iff_eq, decide_eq_true_eq] at hb79
            refine o_unguard 146 rfl rfl ?_
            refine o_pure (p_move (v := .int .i64 (Lru.accessErr c key)) rfl) rfl rfl rfl ?_
            refine o_unguard 146 rfl rfl ?_
            refine o_pure (p_move (v := .int .i64 3) rfl) rfl rfl rfl ?_
            refine o_unguard 146 rfl rfl ?_
            refine o_pure (p_eq (p := (Lru.accessErr c key)) (q := 3) rfl rfl) rfl rfl rfl ?_
            refine o_pure (p_pick_true (u := .bool ((Lru.accessErr c key) == 3)) rfl rfl) rfl rfl rfl ?_
            exact o_sub (Sub.cons rfl (Sub.skip rfl (Sub.skip rfl (Sub.skip rfl (Sub.skip rfl (Sub.skip rfl (Sub.refl _))))))) hk
          · intro hb79 hk
            refine o_guard_no rfl 146 rfl rfl rfl rfl rfl ?_
            refine o_guard_no rfl 146 rfl rfl rfl rfl rfl ?_
            refine o_guard_no rfl 146 rfl rfl rfl rfl rfl ?_
            refine o_pure (p_pick_false (v := .bool false) rfl rfl) rfl rfl rfl ?_
            exact o_sub (Sub.cons rfl (Sub.skip rfl (Sub.skip rfl (Sub.skip rfl (Sub.skip rfl (Sub.skip rfl (Sub.refl _))))))) hk
          refine o_pure (p_move (v := .bool (((((((Lru.check c) == (Lru.check c)) && ((Lru.trace l) == (Lru.trace l))) && (decide (((Lru.access c key).1) = (⟨0, []⟩ : DCache)))) && (((Lru.access c key).2.1) == false)) && (((Lru.access c key).2.2) == 0)) && ((Lru.accessErr c key) == 3))) rfl) rfl rfl rfl ?_
          refine o_and (p := 155) 4 (decide (((Lru.run c l).1) = (⟨0, []⟩ : DCache))) ?_ ?_ ?_
          · intro hb80 hk
            simp only [Bool.and_eq_true, beq_iff_eq, decide_eq_true_eq] at hb80
            refine o_unguard 151 rfl rfl ?_
            refine o_pure (p_load_agg (i := 5) (vs := [.int .i64 (((Lru.run c l).1).room), .slice a10 (((Lru.run c l).1).keys).length c11]) rfl rfl sh72 rfl rfl) rfl rfl rfl ?_
            refine o_unguard 151 rfl rfl ?_
            refine o_pure (p_load_agg (i := 1) (vs := [.int .i64 0, .slice none 0 0]) rfl rfl sh72 rfl rfl) rfl rfl rfl ?_
            refine o_unguard 151 rfl rfl ?_
            refine o_call0 (v := .bool (decide (((Lru.run c l).1) = (⟨0, []⟩ : DCache)))) rfl (sameCache_ok ((Lru.run c l).1) a10 c11 (⟨0, []⟩ : DCache) none 0) hf60 (fun w hw => ⟨(rd_own (i := 6) rfl) w hw, rd_nil w hw⟩) rfl ?_
            refine o_pure (p_pick_true (u := .bool (decide (((Lru.run c l).1) = (⟨0, []⟩ : DCache)))) rfl rfl) rfl rfl rfl ?_
            exact o_sub (Sub.cons rfl (Sub.skip rfl (Sub.skip rfl (Sub.skip rfl (Sub.skip rfl (Sub.skip rfl (Sub.refl _))))))) hk
          · intro hb80 hk
            refine o_guard_no rfl 151 rfl rfl rfl rfl rfl ?_
            refine o_guard_no rfl 151 rfl rfl rfl rfl rfl ?_
            refine o_guard_no rfl 151 rfl rfl rfl rfl rfl ?_
            refine o_pure (p_pick_false (v := .bool false) rfl rfl) rfl rfl rfl ?_
            exact o_sub (Sub.cons rfl (Sub.skip rfl (Sub.skip rfl (Sub.skip rfl (Sub.skip rfl (Sub.skip rfl (Sub.refl _))))))) hk
          refine o_pure (p_move (v := .bool ((((((((Lru.check c) == (Lru.check c)) && ((Lru.trace l) == (Lru.trace l))) && (decide (((Lru.access c key).1) = (⟨0, []⟩ : DCache)))) && (((Lru.access c key).2.1) == false)) && (((Lru.access c key).2.2) == 0)) && ((Lru.accessErr c key) == 3)) && (decide (((Lru.run c l).1) = (⟨0, []⟩ : DCache))))) rfl) rfl rfl rfl ?_
          refine o_and (p := 160) 4 (((Lru.run c l).2) == 0) ?_ ?_ ?_
          · intro hb81 hk
            simp only [Bool.and_eq_true, beq_iff_eq, decide_eq_true_eq] at hb81
            refine o_unguard 156 rfl rfl ?_
            refine o_pure (p_move (v := .int .i64 ((Lru.run c l).2)) rfl) rfl rfl rfl ?_
            refine o_unguard 156 rfl rfl ?_
            refine o_pure (p_move (v := .int .i64 0) rfl) rfl rfl rfl ?_
            refine o_unguard 156 rfl rfl ?_
            refine o_pure (p_eq (p := ((Lru.run c l).2)) (q := 0) rfl rfl) rfl rfl rfl ?_
            refine o_pure (p_pick_true (u := .bool (((Lru.run c l).2) == 0)) rfl rfl) rfl rfl rfl ?_
            exact o_sub (Sub.cons rfl (Sub.skip rfl (Sub.skip rfl (Sub.skip rfl (Sub.skip rfl (Sub.skip rfl (Sub.refl _))))))) hk
          · intro hb81 hk
            refine o_guard_no rfl 156 rfl rfl rfl rfl rfl ?_
            refine o_guard_no rfl 156 rfl rfl rfl rfl rfl ?_
            refine o_guard_no rfl 156 rfl rfl rfl rfl rfl ?_
            refine o_pure (p_pick_false (v := .bool false) rfl rfl) rfl rfl rfl ?_
            exact o_sub (Sub.cons rfl (Sub.skip rfl (Sub.skip rfl (Sub.skip rfl (Sub.skip rfl (Sub.skip rfl (Sub.refl _))))))) hk
          refine o_pure (p_move (v := .bool (((((((((Lru.check c) == (Lru.check c)) && ((Lru.trace l) == (Lru.trace l))) && (decide (((Lru.access c key).1) = (⟨0, []⟩ : DCache)))) && (((Lru.access c key).2.1) == false)) && (((Lru.access c key).2.2) == 0)) && ((Lru.accessErr c key) == 3)) && (decide (((Lru.run c l).1) = (⟨0, []⟩ : DCache)))) && (((Lru.run c l).2) == 0))) rfl) rfl rfl rfl ?_
          refine o_and (p := 165) 4 ((Lru.runErr c l) == (Lru.trace l)) ?_ ?_ ?_
          · intro hb82 hk
            simp only [Bool.and_eq_true, beq_iff_eq, decide_eq_true_eq] at hb82
            refine o_unguard 161 rfl rfl ?_
            refine o_pure (p_move (v := .int .i64 (Lru.runErr c l)) rfl) rfl rfl rfl ?_
            refine o_unguard 161 rfl rfl ?_
            refine o_pure (p_move (v := .int .i64 (Lru.trace l)) rfl) rfl rfl rfl ?_
            refine o_unguard 161 rfl rfl ?_
            refine o_pure (p_eq (p := (Lru.runErr c l)) (q := (Lru.trace l)) rfl rfl) rfl rfl rfl ?_
            refine o_pure (p_pick_true (u := .bool ((Lru.runErr c l) == (Lru.trace l))) rfl rfl) rfl rfl rfl ?_
            exact o_sub (Sub.cons rfl (Sub.skip rfl (Sub.skip rfl (Sub.skip rfl (Sub.skip rfl (Sub.skip rfl (Sub.refl _))))))) hk
          · intro hb82 hk
            refine o_guard_no rfl 161 rfl rfl rfl rfl rfl ?_
            refine o_guard_no rfl 161 rfl rfl rfl rfl rfl ?_
            refine o_guard_no rfl 161 rfl rfl rfl rfl rfl ?_
            refine o_pure (p_pick_false (v := .bool false) rfl rfl) rfl rfl rfl ?_
            exact o_sub (Sub.cons rfl (Sub.skip rfl (Sub.skip rfl (Sub.skip rfl (Sub.skip rfl (Sub.skip rfl (Sub.refl _))))))) hk
          refine o_pure (p_move (v := .bool ((((((((((Lru.check c) == (Lru.check c)) && ((Lru.trace l) == (Lru.trace l))) && (decide (((Lru.access c key).1) = (⟨0, []⟩ : DCache)))) && (((Lru.access c key).2.1) == false)) && (((Lru.access c key).2.2) == 0)) && ((Lru.accessErr c key) == 3)) && (decide (((Lru.run c l).1) = (⟨0, []⟩ : DCache)))) && (((Lru.run c l).2) == 0)) && ((Lru.runErr c l) == (Lru.trace l)))) rfl) rfl rfl rfl ?_
          refine o_and (p := 170) 4 (decide (((Lru.resize c room).1) = (⟨0, []⟩ : DCache))) ?_ ?_ ?_
          · intro hb83 hk
            simp only [Bool.and_eq_true, beq_iff_eq, decide_eq_true_eq] at hb83
            refine o_unguard 166 rfl rfl ?_
            refine o_pure (p_load_agg (i := 3) (vs := [.int .i64 (((Lru.resize c room).1).room), .slice a16 (((Lru.resize c room).1).keys).length c17]) rfl rfl sh72 rfl rfl) rfl rfl rfl ?_
            refine o_unguard 166 rfl rfl ?_
            refine o_pure (p_load_agg (i := 0) (vs := [.int .i64 0, .slice none 0 0]) rfl rfl sh72 rfl rfl) rfl rfl rfl ?_
            refine o_unguard 166 rfl rfl ?_
            refine o_call0 (v := .bool (decide (((Lru.resize c room).1) = (⟨0, []⟩ : DCache)))) rfl (sameCache_ok ((Lru.resize c room).1) a16 c17 (⟨0, []⟩ : DCache) none 0) hf60 (fun w hw => ⟨(rd_ent (i := 4) rfl (fun w h => h.1)) w hw, rd_nil w hw⟩) rfl ?_
            refine o_pure (p_pick_true (u := .bool (decide (((Lru.resize c room).1) = (⟨0, []⟩ : DCache)))) rfl rfl) rfl rfl rfl ?_
            exact o_sub (Sub.cons rfl (Sub.skip rfl (Sub.skip rfl (Sub.skip rfl (Sub.skip rfl (Sub.skip rfl (Sub.refl _))))))) hk
          · intro hb83 hk
            refine o_guard_no rfl 166 rfl rfl rfl rfl rfl ?_
            refine o_guard_no rfl 166 rfl rfl rfl rfl rfl ?_
            refine o_guard_no rfl 166 rfl rfl rfl rfl rfl ?_
            refine o_pure (p_pick_false (v := .bool false) rfl rfl) rfl rfl rfl ?_
            exact o_sub (Sub.cons rfl (Sub.skip rfl (Sub.skip rfl (Sub.skip rfl (Sub.skip rfl (Sub.skip rfl (Sub.refl _))))))) hk
          refine o_pure (p_move (v := .bool (((((((((((Lru.check c) == (Lru.check c)) && ((Lru.trace l) == (Lru.trace l))) && (decide (((Lru.access c key).1) = (⟨0, []⟩ : DCache)))) && (((Lru.access c key).2.1) == false)) && (((Lru.access c key).2.2) == 0)) && ((Lru.accessErr c key) == 3)) && (decide (((Lru.run c l).1) = (⟨0, []⟩ : DCache)))) && (((Lru.run c l).2) == 0)) && ((Lru.runErr c l) == (Lru.trace l))) && (decide (((Lru.resize c room).1) = (⟨0, []⟩ : DCache))))) rfl) rfl rfl rfl ?_
          refine o_and (p := 175) 4 (Ref.sameInts ((Lru.resize c room).2) []) ?_ ?_ ?_
          · intro hb84 hk
            simp only [Bool.and_eq_true, beq_iff_eq, decide_eq_true_eq] at hb84
            refine o_unguard 171 rfl rfl ?_
            refine o_pure (p_move (v := .slice a18 ((Lru.resize c room).2).length c19) rfl) rfl rfl rfl ?_
            refine o_unguard 171 rfl rfl ?_
            refine o_pure (p_move (v := .slice none 0 0) rfl) rfl rfl rfl ?_
            refine o_unguard 171 rfl rfl ?_
            refine o_call0 (v := .bool (Ref.sameInts ((Lru.resize c room).2) [])) rfl (sameInts_ok ((Lru.resize c room).2) a18 c19 [] none 0) hf47 (fun w hw => ⟨(rd_ent (i := 4) rfl (fun w h => h.2)) w hw, rd_nil w hw⟩) rfl ?_
            refine o_pure (p_pick_true (u := .bool (Ref.sameInts ((Lru.resize c room).2) [])) rfl rfl) rfl rfl rfl ?_
            exact o_sub (Sub.cons rfl (Sub.skip rfl (Sub.skip rfl (Sub.skip rfl (Sub.skip rfl (Sub.skip rfl (Sub.refl _))))))) hk
          · intro hb84 hk
            refine o_guard_no rfl 171 rfl rfl rfl rfl rfl ?_
            refine o_guard_no rfl 171 rfl rfl rfl rfl rfl ?_
            refine o_guard_no rfl 171 rfl rfl rfl rfl rfl ?_
            refine o_pure (p_pick_false (v := .bool false) rfl rfl) rfl rfl rfl ?_
            exact o_sub (Sub.cons rfl (Sub.skip rfl (Sub.skip rfl (Sub.skip rfl (Sub.skip rfl (Sub.skip rfl (Sub.refl _))))))) hk
          refine o_pure (p_move (v := .bool ((((((((((((Lru.check c) == (Lru.check c)) && ((Lru.trace l) == (Lru.trace l))) && (decide (((Lru.access c key).1) = (⟨0, []⟩ : DCache)))) && (((Lru.access c key).2.1) == false)) && (((Lru.access c key).2.2) == 0)) && ((Lru.accessErr c key) == 3)) && (decide (((Lru.run c l).1) = (⟨0, []⟩ : DCache)))) && (((Lru.run c l).2) == 0)) && ((Lru.runErr c l) == (Lru.trace l))) && (decide (((Lru.resize c room).1) = (⟨0, []⟩ : DCache)))) && (Ref.sameInts ((Lru.resize c room).2) []))) rfl) rfl rfl rfl ?_
          refine o_and (p := 180) 4 ((Lru.sizeErr c room) == 3) ?_ ?_ ?_
          · intro hb85 hk
            simp only [Bool.and_eq_true, beq_iff_eq, decide_eq_true_eq] at hb85
            refine o_unguard 176 rfl rfl ?_
            refine o_pure (p_move (v := .int .i64 (Lru.sizeErr c room)) rfl) rfl rfl rfl ?_
            refine o_unguard 176 rfl rfl ?_
            refine o_pure (p_move (v := .int .i64 3) rfl) rfl rfl rfl ?_
            refine o_unguard 176 rfl rfl ?_
            refine o_pure (p_eq (p := (Lru.sizeErr c room)) (q := 3) rfl rfl) rfl rfl rfl ?_
            refine o_pure (p_pick_true (u := .bool ((Lru.sizeErr c room) == 3)) rfl rfl) rfl rfl rfl ?_
            exact o_sub (Sub.cons rfl (Sub.skip rfl (Sub.skip rfl (Sub.skip rfl (Sub.skip rfl (Sub.skip rfl (Sub.refl _))))))) hk
          · intro hb85 hk
            refine o_guard_no rfl 176 rfl rfl rfl rfl rfl ?_
            refine o_guard_no rfl 176 rfl rfl rfl rfl rfl ?_
            refine o_guard_no rfl 176 rfl rfl rfl rfl rfl ?_
            refine o_pure (p_pick_false (v := .bool false) rfl rfl) rfl rfl rfl ?_
            exact o_sub (Sub.cons rfl (Sub.skip rfl (Sub.skip rfl (Sub.skip rfl (Sub.skip rfl (Sub.skip rfl (Sub.refl _))))))) hk
          refine o_pure (p_assign (v := .bool (((((((((((((Lru.check c) == (Lru.check c)) && ((Lru.trace l) == (Lru.trace l))) && (decide (((Lru.access c key).1) = (⟨0, []⟩ : DCache)))) && (((Lru.access c key).2.1) == false)) && (((Lru.access c key).2.2) == 0)) && ((Lru.accessErr c key) == 3)) && (decide (((Lru.run c l).1) = (⟨0, []⟩ : DCache)))) && (((Lru.run c l).2) == 0)) && ((Lru.runErr c l) == (Lru.trace l))) && (decide (((Lru.resize c room).1) = (⟨0, []⟩ : DCache)))) && (Ref.sameInts ((Lru.resize c room).2) [])) && ((Lru.sizeErr c room) == 3))) rfl) rfl rfl rfl ?_
          refine o_nil ?_
          refine q_then ?_
          refine c_ret ?_
          have hr0 : ((((((((((((((Lru.check c) == (Lru.check c)) && ((Lru.trace l) == (Lru.trace l))) && (decide (((Lru.access c key).1) = (⟨0, []⟩ : DCache)))) && (((Lru.access c key).2.1) == false)) && (((Lru.access c key).2.2) == 0)) && ((Lru.accessErr c key) == 3)) && (decide (((Lru.run c l).1) = (⟨0, []⟩ : DCache)))) && (((Lru.run c l).2) == 0)) && ((Lru.runErr c l) == (Lru.trace l))) && (decide (((Lru.resize c room).1) = (⟨0, []⟩ : DCache)))) && (Ref.sameInts ((Lru.resize c room).2) [])) && ((Lru.sizeErr c room) == 3)) : Bool) = true := by
            rcases Lru.acc_num c key with ⟨a0, a1, a2⟩ | ⟨a0, a3, a1, a2⟩ | ⟨a0, a3, a1, a2⟩ <;> rcases Lru.run_cases c l with ⟨b0, b1, b2⟩ | ⟨b0, b3, b1, b2⟩ | ⟨b0, b3, b1, b2⟩ <;> rcases Lru.size_num c room with ⟨s0, s1, s2⟩ | ⟨s0, s3, s1, s2⟩ | ⟨s0, s3, s1, s2⟩ <;> first | (exfalso; omega) | (rw [a1, a2, b1, b2, s1, s2]; first | (simp [Lru.zero, Ref.sameInts, a0]; done) | (simp [Lru.zero, Ref.sameInts, a0, b3]; done) | (obtain ⟨hz1, hz2⟩ := hI.done (by omega); rw [hz1, hz2]; first | (simp [Lru.zero, Ref.sameInts, a0]; done) | (simp [Lru.zero, Ref.sameInts, a0, b3]; done)))
          refine q_end0 (v := .bool (((((((((((((Lru.check c) == (Lru.check c)) && ((Lru.trace l) == (Lru.trace l))) && (decide (((Lru.access c key).1) = (⟨0, []⟩ : DCache)))) && (((Lru.access c key).2.1) == false)) && (((Lru.access c key).2.2) == 0)) && ((Lru.accessErr c key) == 3)) && (decide (((Lru.run c l).1) = (⟨0, []⟩ : DCache)))) && (((Lru.run c l).2) == 0)) && ((Lru.runErr c l) == (Lru.trace l))) && (decide (((Lru.resize c room).1) = (⟨0, []⟩ : DCache)))) && (Ref.sameInts ((Lru.resize c room).2) [])) && ((Lru.sizeErr c room) == 3))) (rt1 rfl (r_tmp rfl)) (i := 10) rfl ?_
          exact (by have hcc := congrArg (fun (y0 : Bool) => (.bool y0 : Value)) hr0; exact hcc)
        · simp only [Bool.or_eq_false_iff, decide_eq_false_iff_not, Int.not_lt] at hc74
          refine c_seq ?_
          refine c_region ?_
          refine o_pure (p_move (v := .int .i64 room) rfl) rfl rfl rfl ?_
          refine o_buildSlice (m := 0) (T := tInt) (L := []) (vs := []) rfl rfl rfl rfl Try.underlying52 sz3 (by decide) ze3 rfl (by decide) rfl (fun S86 a87 => ?_)
          refine o_pure (p_fieldAddr (B := B1) (j := 0) (j' := 1) rfl fo72_1 rfl) rfl rfl rfl ?_
          refine o_pure (p_load (i := 10) (v := .slice ac_0 c.keys.length cc_0) rfl rfl sh52 rfl) rfl rfl rfl ?_
          refine o_append (i := 0) (L := []) (M := c.keys) (T := tInt) rfl rfl rfl (rd_base (i := 11) rfl hc_0) Try.underlying52 Try.underlying52 (by intro k h; cases h) el3 (by intro z; simp [tInt, one1]) (by decide) (by first | omega | (simp only [List.length_cons, List.length_nil]; omega) | (simp only [List.length_append, List.length_cons, List.length_nil, List.length_take, List.length_drop]; omega)) rfl (fun a89 c90 S91 => ?_)
          refine o_pure (p_build (cells := [.int .i64 room, .slice a89 c.keys.length c90]) fp72 ze72 rfl rfl) rfl rfl rfl ?_
          refine o_storeN (i := 1) (vs := [.int .i64 room, .slice a89 c.keys.length c90]) (cs' := [.int .i64 room, .slice a89 c.keys.length c90]) rfl rfl rfl sz72 rfl rfl rfl rfl ?_
          refine o_nil ?_
          refine q_then ?_
          refine c_block ?_
          refine c_ownNil tInt ?_
          refine c_loop (St := List Int × Option Addr × Nat × (Nat → Prop) × DCache × Option Addr × Nat × (Nat → Prop))
            (fun ⟨less_, aless_, cless_, Sless_, sc, asc_0, csc_0, Ssc_0⟩ => [(2, .slice al l.length cl), (3, .int .i64 room), (4, .pointer (some ⟨B1, 0, none⟩)), (9, .pointer (some ⟨B7, 0, none⟩)), (10, .bool ((Lru.access c key).2.1)), (11, .int .i64 ((Lru.access c key).2.2)), (12, .int .i64 (Lru.accessErr c key)), (13, .pointer (some ⟨B13, 0, none⟩)), (14, .int .i64 ((Lru.run c l).2)), (15, .int .i64 (Lru.runErr c l)), (16, .pointer (some ⟨B22, 0, none⟩)), (17, .slice a18 ((Lru.resize c room).2).length c19), (18, .int .i64 (Lru.sizeErr c room)), (19, .int .i64 (Lru.check c)), (20, .int .i64 3), (21, .int .i64 (Lru.trace l)), (22, .int .i64 (Lru.check c)), (23, .pointer (some ⟨B23, 0, none⟩)), (24, .pointer (some ⟨B24, 0, none⟩)), (25, .pointer (some ⟨B25, 0, none⟩)), (26, .bool false), (27, .int .i64 0), (28, .int .i64 0), (29, .slice aless_ less_.length cless_)])
            (fun ⟨less_, aless_, cless_, Sless_, sc, asc_0, csc_0, Ssc_0⟩ => [own tInt Sless_ aless_ cless_ less_, own tInt Ssc_0 asc_0 csc_0 sc.keys, box B25 [.int .i64 sc.room, .slice asc_0 sc.keys.length csc_0] 72, box B24 [.int .i64 0, .slice none 0 0] 72, box B23 [.int .i64 0, .slice none 0 0] 72, box B22 [.int .i64 (((Lru.resize c room).1).room), .slice a16 (((Lru.resize c room).1).keys).length c17] 72, ⟨S14, fun w => SlR tInt S14 w a16 c17 (((Lru.resize c room).1).keys) ∧ SlR tInt S14 w a18 c19 ((Lru.resize c room).2)⟩, box B13 [.int .i64 (((Lru.run c l).1).room), .slice a10 (((Lru.run c l).1).keys).length c11] 72, own tInt S8 a10 c11 (((Lru.run c l).1).keys), box B7 [.int .i64 (((Lru.access c key).1).room), .slice a4 (((Lru.access c key).1).keys).length c5] 72, own tInt S2 a4 c5 (((Lru.access c key).1).keys), box B1 [.int .i64 c.room, .slice ac_0 c.keys.length cc_0] 72, base w0])
            (fun ⟨less_, aless_, cless_, Sless_, sc, asc_0, csc_0, Ssc_0⟩ => Lru.ZInv c room sc less_)
            (fun ⟨less_, aless_, cless_, Sless_, sc, asc_0, csc_0, Ssc_0⟩ => sc.keys.length)
            ([], none, 0, (fun _ => False), (⟨room, c.keys⟩ : DCache), a89, c90, S91) ?_ (Sub.cons rfl (Sub.cons rfl (Sub.cons rfl (Sub.cons rfl (Sub.cons rfl (Sub.cons rfl (Sub.cons rfl (Sub.cons rfl (Sub.cons rfl (Sub.cons rfl (Sub.cons rfl (Sub.cons rfl (Sub.cons rfl (Sub.cons rfl (Sub.cons rfl (Sub.cons rfl (Sub.cons rfl (Sub.cons rfl (Sub.cons rfl (Sub.cons rfl (Sub.cons rfl (Sub.cons rfl (Sub.cons rfl (Sub.cons rfl (Sub.nil _))))))))))))))))))))))))) (fun _ hw => hw) ?_
          · exact Lru.ZInv.start (by omega)
          rintro ⟨less_, aless_, cless_, Sless_, sc, asc_0, csc_0, Ssc_0⟩ hI K hK93
          have hzl := hI.len
          have hzb := hI.rb
          show SC _ _ Try.prog 181 w0 _ _ [(2, .slice al l.length cl), (3, .int .i64 room), (4, .pointer (some ⟨B1, 0, none⟩)), (9, .pointer (some ⟨B7, 0, none⟩)), (10, .bool ((Lru.access c key).2.1)), (11, .int .i64 ((Lru.access c key).2.2)), (12, .int .i64 (Lru.accessErr c key)), (13, .pointer (some ⟨B13, 0, none⟩)), (14, .int .i64 ((Lru.run c l).2)), (15, .int .i64 (Lru.runErr c l)), (16, .pointer (some ⟨B22, 0, none⟩)), (17, .slice a18 ((Lru.resize c room).2).length c19), (18, .int .i64 (Lru.sizeErr c room)), (19, .int .i64 (Lru.check c)), (20, .int .i64 3), (21, .int .i64 (Lru.trace l)), (22, .int .i64 (Lru.check c)), (23, .pointer (some ⟨B23, 0, none⟩)), (24, .pointer (some ⟨B24, 0, none⟩)), (25, .pointer (some ⟨B25, 0, none⟩)), (26, .bool false), (27, .int .i64 0), (28, .int .i64 0), (29, .slice aless_ less_.length cless_)] [own tInt Sless_ aless_ cless_ less_, own tInt Ssc_0 asc_0 csc_0 sc.keys, box B25 [.int .i64 sc.room, .slice asc_0 sc.keys.length csc_0] 72, box B24 [.int .i64 0, .slice none 0 0] 72, box B23 [.int .i64 0, .slice none 0 0] 72, box B22 [.int .i64 (((Lru.resize c room).1).room), .slice a16 (((Lru.resize c room).1).keys).length c17] 72, ⟨S14, fun w => SlR tInt S14 w a16 c17 (((Lru.resize c room).1).keys) ∧ SlR tInt S14 w a18 c19 ((Lru.resize c room).2)⟩, box B13 [.int .i64 (((Lru.run c l).1).room), .slice a10 (((Lru.run c l).1).keys).length c11] 72, own tInt S8 a10 c11 (((Lru.run c l).1).keys), box B7 [.int .i64 (((Lru.access c key).1).room), .slice a4 (((Lru.access c key).1).keys).length c5] 72, own tInt S2 a4 c5 (((Lru.access c key).1).keys), box B1 [.int .i64 c.room, .slice ac_0 c.keys.length cc_0] 72, base w0]
          refine c_seq ?_
          refine c_seq ?_
          refine c_region ?_
          refine o_pure (p_fieldAddr (B := B25) (j := 0) (j' := 1) rfl fo72_1 rfl) rfl rfl rfl ?_
          refine o_pure (p_load (i := 2) (v := .slice asc_0 sc.keys.length csc_0) rfl rfl sh52 rfl) rfl rfl rfl ?_
          refine o_pure (p_len_slice (len := sc.keys.length) rfl rfl Try.underlying52) rfl rfl rfl ?_
          refine o_pure (p_move (v := .int .i64 room) rfl) rfl rfl rfl ?_
          refine o_pure (p_gt (p := (sc.keys.length : Int)) (q := room) rfl rfl) rfl rfl rfl ?_
          refine o_nil ?_
          refine q_then ?_
          refine c_cond (b := decide (room < (sc.keys.length : Int))) rfl (fun hc94 => ?_) (fun hc94 => ?_)
          · simp only [decide_eq_true_eq] at hc94
            refine c_skip ?_
            refine q_then ?_
            refine c_block ?_
            refine c_seq ?_
            refine c_region ?_
            refine o_pure (p_fieldAddr (B := B25) (j := 0) (j' := 1) rfl fo72_1 rfl) rfl rfl rfl ?_
            refine o_pure (p_load (i := 2) (v := .slice asc_0 sc.keys.length csc_0) rfl rfl sh52 rfl) rfl rfl rfl ?_
            refine o_pure (p_len_slice (len := sc.keys.length) rfl rfl Try.underlying52) rfl rfl rfl ?_
            refine o_pure (p_subb (p := (sc.keys.length : Int)) (q := 1) rfl rfl (by omega)) rfl rfl rfl ?_
            refine o_pure (p_assign (v := .int .i64 ((sc.keys.length : Int) - 1)) rfl) rfl rfl rfl ?_
            refine o_nil ?_
            refine q_then ?_
            refine c_seq ?_
            refine c_region ?_
            refine o_pure (p_move (v := .slice aless_ less_.length cless_) rfl) rfl rfl rfl ?_
            refine o_pure (p_fieldAddr (B := B25) (j := 0) (j' := 1) rfl fo72_1 rfl) rfl rfl rfl ?_
            refine o_pure (p_load (i := 2) (v := .slice asc_0 sc.keys.length csc_0) rfl rfl sh52 rfl) rfl rfl rfl ?_
            refine o_pure (p_move (v := .int .i64 ((sc.keys.length : Int) - 1)) rfl) rfl rfl rfl ?_
            refine o_pure (p_indexAddr (L := sc.keys) (T := tInt) (i := ((sc.keys.length : Int) - 1)) rfl rfl (rd_own (i := 1) rfl) Try.underlying52 sz3 (by omega) (by omega)) rfl rfl rfl ?_
            refine o_pure (p_loadE1 (i := ((sc.keys.length : Int) - 1).toNat) (T := tInt) (L := sc.keys) (v := .int .i64 (sc.keys[((sc.keys.length : Int) - 1).toNat])) rfl (rd_own (i := 1) rfl) (by first | assumption | omega) sh3 rfl) rfl rfl rfl ?_
            refine o_buildSlice (m := 1) (T := tInt) (L := [sc.keys[((sc.keys.length : Int) - 1).toNat]]) (vs := [.int .i64 (sc.keys[((sc.keys.length : Int) - 1).toNat])]) rfl rfl rfl rfl Try.underlying52 sz3 (by decide) ze3 rfl (by decide) rfl (fun S95 a96 => ?_)
            refine o_append (i := 1) (L := less_) (M := [sc.keys[((sc.keys.length : Int) - 1).toNat]]) (T := tInt) rfl rfl rfl (rd_own (i := 0) rfl) Try.underlying52 Try.underlying52 (by intro k h; cases h) el3 (by intro z; simp [tInt, one1]) (by decide) (by first | omega | (simp only [List.length_cons, List.length_nil]; omega) | (simp only [List.length_append, List.length_cons, List.length_nil, List.length_take, List.length_drop]; omega)) rfl (fun a98 c99 S100 => ?_)
            refine o_pure (p_assign (v := .slice a98 (less_ ++ [sc.keys[((sc.keys.length : Int) - 1).toNat]]).length c99) rfl) rfl rfl rfl ?_
            refine o_nil ?_
            refine q_then ?_
            refine c_region ?_
            refine o_pure (p_fieldAddr (B := B25) (j := 0) (j' := 1) rfl fo72_1 rfl) rfl rfl rfl ?_
            refine o_pure (p_load (i := 3) (v := .slice asc_0 sc.keys.length csc_0) rfl rfl sh52 rfl) rfl rfl rfl ?_
            refine o_pure (p_move (v := .int .i64 ((sc.keys.length : Int) - 1)) rfl) rfl rfl rfl ?_
            refine o_pure (p_sliceH (L := sc.keys) (T := tInt) (h := ((sc.keys.length : Int) - 1)) rfl rfl Try.underlying52 sz3 (by omega) (by omega) (rd_own (i := 2) rfl)) rfl rfl rfl ?_
            refine o_pure (p_fieldAddr (B := B25) (j := 0) (j' := 1) rfl fo72_1 rfl) rfl rfl rfl ?_
            refine o_shrinkC (i := 2) (hi := ((sc.keys.length : Int) - 1).toNat) (T := tInt) rfl (by omega) ?_
            refine o_store (i := 3) (v := .slice asc_0 (sc.keys.take (((sc.keys.length : Int) - 1).toNat)).length csc_0) (cs' := [.int .i64 sc.room, .slice asc_0 (sc.keys.take (((sc.keys.length : Int) - 1).toNat)).length csc_0]) rfl rfl rfl sz52 rfl rfl rfl ?_
            refine o_nil ?_
            refine q_block_normal ?_
            refine q_round hK93 ((less_ ++ [sc.keys[((sc.keys.length : Int) - 1).toNat]]), a98, c99, S100, (⟨sc.room, (sc.keys.take (((sc.keys.length : Int) - 1).toNat))⟩ : DCache), asc_0, csc_0, Ssc_0) ?_ ?_ ?_ ?_
            · clear hK93
              exact hI.next (by omega) (by omega)
            · (try dsimp only); simp only [List.length_take]; omega
            · exact Sub.cons rfl (Sub.cons rfl (Sub.cons rfl (Sub.cons rfl (Sub.cons rfl (Sub.cons rfl (Sub.cons rfl (Sub.cons rfl (Sub.cons rfl (Sub.cons rfl (Sub.cons rfl (Sub.cons rfl (Sub.cons rfl (Sub.cons rfl (Sub.cons rfl (Sub.cons rfl (Sub.cons rfl (Sub.cons rfl (Sub.cons rfl (Sub.cons rfl (Sub.cons rfl (Sub.cons rfl (Sub.cons rfl (Sub.cons rfl (Sub.nil _))))))))))))))))))))))))
            · exact fun _ hw => HeapIs.pick hw [1, 2, 3, 4, 5, 6, 7, 8, 9, 10, 11, 12, 13] (by decide) rfl
          · simp only [decide_eq_false_iff_not, Int.not_lt] at hc94
            refine c_exit ?_
            refine q_then_exit (q_then_exit (q_block_exit (q_then ?_)))
            refine c_seq ?_
            refine c_region ?_
            refine o_call0 (v := .bool true) rfl (lruBegun_ok ) hf57 (fun _ _ => trivial) rfl ?_
            refine o_pure (p_move (v := .bool true) rfl) rfl rfl rfl ?_
            refine o_unguard 118 rfl rfl ?_
            refine o_pure (p_load_agg (i := 11) (vs := [.int .i64 c.room, .slice ac_0 c.keys.length cc_0]) rfl rfl sh72 rfl rfl) rfl rfl rfl ?_
            refine o_unguard 118 rfl rfl ?_
            refine o_call0 (v := .int .i64 (Lru.check c)) rfl (lcheck_ok c ac_0 cc_0) hf58 (fun w hw => (rd_base (i := 12) rfl hc_0) w hw) rfl ?_
            refine o_unguard 118 rfl rfl ?_
            refine o_pure (p_move (v := .int .i64 (Lru.check c)) rfl) rfl rfl rfl ?_
            refine o_unguard 118 rfl rfl ?_
            refine o_pure (p_eq (p := (Lru.check c)) (q := (Lru.check c)) rfl rfl) rfl rfl rfl ?_
            refine o_pure (p_pick_true (u := .bool ((Lru.check c) == (Lru.check c))) rfl rfl) rfl rfl rfl ?_
            refine o_pure (p_move (v := .bool ((Lru.check c) == (Lru.check c))) rfl) rfl rfl rfl ?_
            refine o_and (p := 130) 6 ((Lru.trace l) == (Lru.trace l)) ?_ ?_ ?_
            · intro hb101 hk
              simp only [beq_iff_eq] at hb101
              refine o_unguard 124 rfl rfl ?_
              refine o_pure (p_move (v := .slice al l.length cl) rfl) rfl rfl rfl ?_
              refine o_unguard 124 rfl rfl ?_
              refine o_call0 (v := .int .i64 (Lru.trace l)) rfl (checkTrace_ok l al cl) hf59 (fun w hw => (rd_base (i := 12) rfl hl) w hw) rfl ?_
              refine o_unguard 124 rfl rfl ?_
              refine o_pure (p_move (v := .slice al l.length cl) rfl) rfl rfl rfl ?_
              refine o_unguard 124 rfl rfl ?_
              refine o_call0 (v := .int .i64 (Lru.trace l)) rfl (traceCheck_ok l al cl) hf44 (fun w hw => (rd_base (i := 12) rfl hl) w hw) rfl ?_
              refine o_unguard 124 rfl rfl ?_
              refine o_pure (p_eq (p := (Lru.trace l)) (q := (Lru.trace l)) rfl rfl) rfl rfl rfl ?_
              refine o_pure (p_pick_true (u := .bool ((Lru.trace l) == (Lru.trace l))) rfl rfl) rfl rfl rfl ?_
              exact o_sub (Sub.cons rfl (Sub.skip rfl (Sub.skip rfl (Sub.skip rfl (Sub.skip rfl (Sub.skip rfl (Sub.skip rfl (Sub.skip rfl (Sub.refl _))))))))) hk
            · intro hb101 hk
              refine o_guard_no rfl 124 rfl rfl rfl rfl rfl ?_
              refine o_guard_no rfl 124 rfl rfl rfl rfl rfl ?_
              refine o_guard_no rfl 124 rfl rfl rfl rfl rfl ?_
              refine o_guard_no rfl 124 rfl rfl rfl rfl rfl ?_
              refine o_guard_no rfl 124 rfl rfl rfl rfl rfl ?_
              refine o_pure (p_pick_false (v := .bool false) rfl rfl) rfl rfl rfl ?_
              exact o_sub (Sub.cons rfl (Sub.skip rfl (Sub.skip rfl (Sub.skip rfl (Sub.skip rfl (Sub.skip rfl (Sub.skip rfl (Sub.skip rfl (Sub.refl _))))))))) hk
            refine o_pure (p_move (v := .bool (((Lru.check c) == (Lru.check c)) && ((Lru.trace l) == (Lru.trace l)))) rfl) rfl rfl rfl ?_
            refine o_and (p := 135) 4 (decide (((Lru.access c key).1) = (⟨0, []⟩ : DCache))) ?_ ?_ ?_
            · intro hb102 hk
              simp only [Bool.and_eq_true, beq_iff_eq] at hb102
              refine o_unguard 131 rfl rfl ?_
              refine o_pure (p_load_agg (i := 9) (vs := [.int .i64 (((Lru.access c key).1).room), .slice a4 (((Lru.access c key).1).keys).length c5]) rfl rfl sh72 rfl rfl) rfl rfl rfl ?_
              refine o_unguard 131 rfl rfl ?_
              refine o_pure (p_load_agg (i := 4) (vs := [.int .i64 0, .slice none 0 0]) rfl rfl sh72 rfl rfl) rfl rfl rfl ?_
              refine o_unguard 131 rfl rfl ?_
              refine o_call0 (v := .bool (decide (((Lru.access c key).1) = (⟨0, []⟩ : DCache)))) rfl (sameCache_ok ((Lru.access c key).1) a4 c5 (⟨0, []⟩ : DCache) none 0) hf60 (fun w hw => ⟨(rd_own (i := 10) rfl) w hw, rd_nil w hw⟩) rfl ?_
              refine o_pure (p_pick_true (u := .bool (decide (((Lru.access c key).1) = (⟨0, []⟩ : DCache)))) rfl rfl) rfl rfl rfl ?_
              exact o_sub (Sub.cons rfl (Sub.skip rfl (Sub.skip rfl (Sub.skip rfl (Sub.skip rfl (Sub.skip rfl (Sub.refl _))))))) hk
            · intro hb102 hk
              refine o_guard_no rfl 131 rfl rfl rfl rfl rfl ?_
              refine o_guard_no rfl 131 rfl rfl rfl rfl rfl ?_
              refine o_guard_no rfl 131 rfl rfl rfl rfl rfl ?_
              refine o_pure (p_pick_false (v := .bool false) rfl rfl) rfl rfl rfl ?_
              exact o_sub (Sub.cons rfl (Sub.skip rfl (Sub.skip rfl (Sub.skip rfl (Sub.skip rfl (Sub.skip rfl (Sub.refl _))))))) hk
            refine o_pure (p_move (v := .bool ((((Lru.check c) == (Lru.check c)) && ((Lru.trace l) == (Lru.trace l))) && (decide (((Lru.access c key).1) = (⟨0, []⟩ : DCache))))) rfl) rfl rfl rfl ?_
            refine o_and (p := 140) 4 (((Lru.access c key).2.1) == false) ?_ ?_ ?_
            · intro hb103 hk
              simp only [Bool.and_eq_true, beq_iff_eq, decide_eq_true_eq] at hb103
              refine o_unguard 136 rfl rfl ?_
              refine o_pure (p_move (v := .bool ((Lru.access c key).2.1)) rfl) rfl rfl rfl ?_
              refine o_unguard 136 rfl rfl ?_
              refine o_pure (p_move (v := .bool false) rfl) rfl rfl rfl ?_
              refine o_unguard 136 rfl rfl ?_
              refine o_pure (p_eqBool (b := ((Lru.access c key).2.1)) (c := false) rfl rfl Try.underlying4) rfl rfl rfl ?_
              refine o_pure (p_pick_true (u := .bool (((Lru.access c key).2.1) == false)) rfl rfl) rfl rfl rfl ?_
              exact o_sub (Sub.cons rfl (Sub.skip rfl (Sub.skip rfl (Sub.skip rfl (Sub.skip rfl (Sub.skip rfl (Sub.refl _))))))) hk
            · intro hb103 hk
              refine o_guard_no rfl 136 rfl rfl rfl rfl rfl ?_
              refine o_guard_no rfl 136 rfl rfl rfl rfl rfl ?_
              refine o_guard_no rfl 136 rfl rfl rfl rfl rfl ?_
              refine o_pure (p_pick_false (v := .bool false) rfl rfl) rfl rfl rfl ?_
              exact o_sub (Sub.cons rfl (Sub.skip rfl (Sub.skip rfl (Sub.skip rfl (Sub.skip rfl (Sub.skip rfl (Sub.refl _))))))) hk
            refine o_pure (p_move (v := .bool (((((Lru.check c) == (Lru.check c)) && ((Lru.trace l) == (Lru.trace l))) && (decide (((Lru.access c key).1) = (⟨0, []⟩ : DCache)))) && (((Lru.access c key).2.1) == false))) rfl) rfl rfl rfl ?_
            refine o_and (p := 145) 4 (((Lru.access c key).2.2) == 0) ?_ ?_ ?_
            · intro hb104 hk
              simp only [Bool.and_eq_true, beq_iff_eq, decide_eq_true_eq] at hb104
              refine o_unguard 141 rfl rfl ?_
              refine o_pure (p_move (v := .int .i64 ((Lru.access c key).2.2)) rfl) rfl rfl rfl ?_
              refine o_unguard 141 rfl rfl ?_
              refine o_pure (p_move (v := .int .i64 0) rfl) rfl rfl rfl ?_
              refine o_unguard 141 rfl rfl ?_
              refine o_pure (p_eq (p := ((Lru.access c key).2.2)) (q := 0) rfl rfl) rfl rfl rfl ?_
              refine o_pure (p_pick_true (u := .bool (((Lru.access c key).2.2) == 0)) rfl rfl) rfl rfl rfl ?_
              exact o_sub (Sub.cons rfl (Sub.skip rfl (Sub.skip rfl (Sub.skip rfl (Sub.skip rfl (Sub.skip rfl (Sub.refl _))))))) hk
            · intro hb104 hk
              refine o_guard_no rfl 141 rfl rfl rfl rfl rfl ?_
              refine o_guard_no rfl 141 rfl rfl rfl rfl rfl ?_
              refine o_guard_no rfl 141 rfl rfl rfl rfl rfl ?_
              refine o_pure (p_pick_false (v := .bool false) rfl rfl) rfl rfl rfl ?_
              exact o_sub (Sub.cons rfl (Sub.skip rfl (Sub.skip rfl (Sub.skip rfl (Sub.skip rfl (Sub.skip rfl (Sub.refl _))))))) hk
            refine o_pure (p_move (v := .bool ((((((Lru.check c) == (Lru.check c)) && ((Lru.trace l) == (Lru.trace l))) && (decide (((Lru.access c key).1) = (⟨0, []⟩ : DCache)))) && (((Lru.access c key).2.1) == false)) && (((Lru.access c key).2.2) == 0))) rfl) rfl rfl rfl ?_
            refine o_and (p := 150) 4 ((Lru.accessErr c key) == 3) ?_ ?_ ?_
            · intro hb105 hk
              simp only [Bool.and_eq_true, beq_iff_eq, decide_eq_true_eq] at hb105
              refine o_unguard 146 rfl rfl ?_
              refine o_pure (p_move (v := .int .i64 (Lru.accessErr c key)) rfl) rfl rfl rfl ?_
              refine o_unguard 146 rfl rfl ?_
              refine o_pure (p_move (v := .int .i64 3) rfl) rfl rfl rfl ?_
              refine o_unguard 146 rfl rfl ?_
              refine o_pure (p_eq (p := (Lru.accessErr c key)) (q := 3) rfl rfl) rfl rfl rfl ?_
              refine o_pure (p_pick_true (u := .bool ((Lru.accessErr c key) == 3)) rfl rfl) rfl rfl rfl ?_
              exact o_sub (Sub.cons rfl (Sub.skip rfl (Sub.skip rfl (Sub.skip rfl (Sub.skip rfl (Sub.skip rfl (Sub.refl _))))))) hk
            · intro hb105 hk
              refine o_guard_no rfl 146 rfl rfl rfl rfl rfl ?_
              refine o_guard_no rfl 146 rfl rfl rfl rfl rfl ?_
              refine o_guard_no rfl 146 rfl rfl rfl rfl rfl ?_
              refine o_pure (p_pick_false (v := .bool false) rfl rfl) rfl rfl rfl ?_
              exact o_sub (Sub.cons rfl (Sub.skip rfl (Sub.skip rfl (Sub.skip rfl (Sub.skip rfl (Sub.skip rfl (Sub.refl _))))))) hk
            refine o_pure (p_move (v := .bool (((((((Lru.check c) == (Lru.check c)) && ((Lru.trace l) == (Lru.trace l))) && (decide (((Lru.access c key).1) = (⟨0, []⟩ : DCache)))) && (((Lru.access c key).2.1) == false)) && (((Lru.access c key).2.2) == 0)) && ((Lru.accessErr c key) == 3))) rfl) rfl rfl rfl ?_
            refine o_and (p := 155) 4 (decide (((Lru.run c l).1) = (⟨0, []⟩ : DCache))) ?_ ?_ ?_
            · intro hb106 hk
              simp only [Bool.and_eq_true, beq_iff_eq, decide_eq_true_eq] at hb106
              refine o_unguard 151 rfl rfl ?_
              refine o_pure (p_load_agg (i := 7) (vs := [.int .i64 (((Lru.run c l).1).room), .slice a10 (((Lru.run c l).1).keys).length c11]) rfl rfl sh72 rfl rfl) rfl rfl rfl ?_
              refine o_unguard 151 rfl rfl ?_
              refine o_pure (p_load_agg (i := 3) (vs := [.int .i64 0, .slice none 0 0]) rfl rfl sh72 rfl rfl) rfl rfl rfl ?_
              refine o_unguard 151 rfl rfl ?_
              refine o_call0 (v := .bool (decide (((Lru.run c l).1) = (⟨0, []⟩ : DCache)))) rfl (sameCache_ok ((Lru.run c l).1) a10 c11 (⟨0, []⟩ : DCache) none 0) hf60 (fun w hw => ⟨(rd_own (i := 8) rfl) w hw, rd_nil w hw⟩) rfl ?_
              refine o_pure (p_pick_true (u := .bool (decide (((Lru.run c l).1) = (⟨0, []⟩ : DCache)))) rfl rfl) rfl rfl rfl ?_
              exact o_sub (Sub.cons rfl (Sub.skip rfl (Sub.skip rfl (Sub.skip rfl (Sub.skip rfl (Sub.skip rfl (Sub.refl _))))))) hk
            · intro hb106 hk
              refine o_guard_no rfl 151 rfl rfl rfl rfl rfl ?_
              refine o_guard_no rfl 151 rfl rfl rfl rfl rfl ?_
              refine o_guard_no rfl 151 rfl rfl rfl rfl rfl ?_
              refine o_pure (p_pick_false (v := .bool false) rfl rfl) rfl rfl rfl ?_
              exact o_sub (Sub.cons rfl (Sub.skip rfl (Sub.skip rfl (Sub.skip rfl (Sub.skip rfl (Sub.skip rfl (Sub.refl _))))))) hk
            refine o_pure (p_move (v := .bool ((((((((Lru.check c) == (Lru.check c)) && ((Lru.trace l) == (Lru.trace l))) && (decide (((Lru.access c key).1) = (⟨0, []⟩ : DCache)))) && (((Lru.access c key).2.1) == false)) && (((Lru.access c key).2.2) == 0)) && ((Lru.accessErr c key) == 3)) && (decide (((Lru.run c l).1) = (⟨0, []⟩ : DCache))))) rfl) rfl rfl rfl ?_
            refine o_and (p := 160) 4 (((Lru.run c l).2) == 0) ?_ ?_ ?_
            · intro hb107 hk
              simp only [Bool.and_eq_true, beq_iff_eq, decide_eq_true_eq] at hb107
              refine o_unguard 156 rfl rfl ?_
              refine o_pure (p_move (v := .int .i64 ((Lru.run c l).2)) rfl) rfl rfl rfl ?_
              refine o_unguard 156 rfl rfl ?_
              refine o_pure (p_move (v := .int .i64 0) rfl) rfl rfl rfl ?_
              refine o_unguard 156 rfl rfl ?_
              refine o_pure (p_eq (p := ((Lru.run c l).2)) (q := 0) rfl rfl) rfl rfl rfl ?_
              refine o_pure (p_pick_true (u := .bool (((Lru.run c l).2) == 0)) rfl rfl) rfl rfl rfl ?_
              exact o_sub (Sub.cons rfl (Sub.skip rfl (Sub.skip rfl (Sub.skip rfl (Sub.skip rfl (Sub.skip rfl (Sub.refl _))))))) hk
            · intro hb107 hk
              refine o_guard_no rfl 156 rfl rfl rfl rfl rfl ?_
              refine o_guard_no rfl 156 rfl rfl rfl rfl rfl ?_
              refine o_guard_no rfl 156 rfl rfl rfl rfl rfl ?_
              refine o_pure (p_pick_false (v := .bool false) rfl rfl) rfl rfl rfl ?_
              exact o_sub (Sub.cons rfl (Sub.skip rfl (Sub.skip rfl (Sub.skip rfl (Sub.skip rfl (Sub.skip rfl (Sub.refl _))))))) hk
            refine o_pure (p_move (v := .bool (((((((((Lru.check c) == (Lru.check c)) && ((Lru.trace l) == (Lru.trace l))) && (decide (((Lru.access c key).1) = (⟨0, []⟩ : DCache)))) && (((Lru.access c key).2.1) == false)) && (((Lru.access c key).2.2) == 0)) && ((Lru.accessErr c key) == 3)) && (decide (((Lru.run c l).1) = (⟨0, []⟩ : DCache)))) && (((Lru.run c l).2) == 0))) rfl) rfl rfl rfl ?_
            refine o_and (p := 165) 4 ((Lru.runErr c l) == (Lru.trace l)) ?_ ?_ ?_
            · intro hb108 hk
              simp only [Bool.and_eq_true, beq_iff_eq, decide_eq_true_eq] at hb108
              refine o_unguard 161 rfl rfl ?_
              refine o_pure (p_move (v := .int .i64 (Lru.runErr c l)) rfl) rfl rfl rfl ?_
              refine o_unguard 161 rfl rfl ?_
              refine o_pure (p_move (v := .int .i64 (Lru.trace l)) rfl) rfl rfl rfl ?_
              refine o_unguard 161 rfl rfl ?_
              refine o_pure (p_eq (p := (Lru.runErr c l)) (q := (Lru.trace l)) rfl rfl) rfl rfl rfl ?_
              refine o_pure (p_pick_true (u := .bool ((Lru.runErr c l) == (Lru.trace l))) rfl rfl) rfl rfl rfl ?_
              exact o_sub (Sub.cons rfl (Sub.skip rfl (Sub.skip rfl (Sub.skip rfl (Sub.skip rfl (Sub.skip rfl (Sub.refl _))))))) hk
            · intro hb108 hk
              refine o_guard_no rfl 161 rfl rfl rfl rfl rfl ?_
              refine o_guard_no rfl 161 rfl rfl rfl rfl rfl ?_
              refine o_guard_no rfl 161 rfl rfl rfl rfl rfl ?_
              refine o_pure (p_pick_false (v := .bool false) rfl rfl) rfl rfl rfl ?_
              exact o_sub (Sub.cons rfl (Sub.skip rfl (Sub.skip rfl (Sub.skip rfl (Sub.skip rfl (Sub.skip rfl (Sub.refl _))))))) hk
            refine o_pure (p_move (v := .bool ((((((((((Lru.check c) == (Lru.check c)) && ((Lru.trace l) == (Lru.trace l))) && (decide (((Lru.access c key).1) = (⟨0, []⟩ : DCache)))) && (((Lru.access c key).2.1) == false)) && (((Lru.access c key).2.2) == 0)) && ((Lru.accessErr c key) == 3)) && (decide (((Lru.run c l).1) = (⟨0, []⟩ : DCache)))) && (((Lru.run c l).2) == 0)) && ((Lru.runErr c l) == (Lru.trace l)))) rfl) rfl rfl rfl ?_
            refine o_and (p := 170) 4 (decide (((Lru.resize c room).1) = sc)) ?_ ?_ ?_
            · intro hb109 hk
              simp only [Bool.and_eq_true, beq_iff_eq, decide_eq_true_eq] at hb109
              refine o_unguard 166 rfl rfl ?_
              refine o_pure (p_load_agg (i := 5) (vs := [.int .i64 (((Lru.resize c room).1).room), .slice a16 (((Lru.resize c room).1).keys).length c17]) rfl rfl sh72 rfl rfl) rfl rfl rfl ?_
              refine o_unguard 166 rfl rfl ?_
              refine o_pure (p_load_agg (i := 2) (vs := [.int .i64 sc.room, .slice asc_0 sc.keys.length csc_0]) rfl rfl sh72 rfl rfl) rfl rfl rfl ?_
              refine o_unguard 166 rfl rfl ?_
              refine o_call0 (v := .bool (decide (((Lru.resize c room).1) = sc))) rfl (sameCache_ok ((Lru.resize c room).1) a16 c17 sc asc_0 csc_0) hf60 (fun w hw => ⟨(rd_ent (i := 6) rfl (fun w h => h.1)) w hw, (rd_own (i := 1) rfl) w hw⟩) rfl ?_
              refine o_pure (p_pick_true (u := .bool (decide (((Lru.resize c room).1) = sc))) rfl rfl) rfl rfl rfl ?_
              exact o_sub (Sub.cons rfl (Sub.skip rfl (Sub.skip rfl (Sub.skip rfl (Sub.skip rfl (Sub.skip rfl (Sub.refl _))))))) hk
            · intro hb109 hk
              refine o_guard_no rfl 166 rfl rfl rfl rfl rfl ?_
              refine o_guard_no rfl 166 rfl rfl rfl rfl rfl ?_
              refine o_guard_no rfl 166 rfl rfl rfl rfl rfl ?_
              refine o_pure (p_pick_false (v := .bool false) rfl rfl) rfl rfl rfl ?_
              exact o_sub (Sub.cons rfl (Sub.skip rfl (Sub.skip rfl (Sub.skip rfl (Sub.skip rfl (Sub.skip rfl (Sub.refl _))))))) hk
            refine o_pure (p_move (v := .bool (((((((((((Lru.check c) == (Lru.check c)) && ((Lru.trace l) == (Lru.trace l))) && (decide (((Lru.access c key).1) = (⟨0, []⟩ : DCache)))) && (((Lru.access c key).2.1) == false)) && (((Lru.access c key).2.2) == 0)) && ((Lru.accessErr c key) == 3)) && (decide (((Lru.run c l).1) = (⟨0, []⟩ : DCache)))) && (((Lru.run c l).2) == 0)) && ((Lru.runErr c l) == (Lru.trace l))) && (decide (((Lru.resize c room).1) = sc)))) rfl) rfl rfl rfl ?_
            refine o_and (p := 175) 4 (Ref.sameInts ((Lru.resize c room).2) less_) ?_ ?_ ?_
            · intro hb110 hk
              simp only [Bool.and_eq_true, beq_iff_eq, decide_eq_true_eq] at hb110
              refine o_unguard 171 rfl rfl ?_
              refine o_pure (p_move (v := .slice a18 ((Lru.resize c room).2).length c19) rfl) rfl rfl rfl ?_
              refine o_unguard 171 rfl rfl ?_
              refine o_pure (p_move (v := .slice aless_ less_.length cless_) rfl) rfl rfl rfl ?_
              refine o_unguard 171 rfl rfl ?_
              refine o_call0 (v := .bool (Ref.sameInts ((Lru.resize c room).2) less_)) rfl (sameInts_ok ((Lru.resize c room).2) a18 c19 less_ aless_ cless_) hf47 (fun w hw => ⟨(rd_ent (i := 6) rfl (fun w h => h.2)) w hw, (rd_own (i := 0) rfl) w hw⟩) rfl ?_
              refine o_pure (p_pick_true (u := .bool (Ref.sameInts ((Lru.resize c room).2) less_)) rfl rfl) rfl rfl rfl ?_
              exact o_sub (Sub.cons rfl (Sub.skip rfl (Sub.skip rfl (Sub.skip rfl (Sub.skip rfl (Sub.skip rfl (Sub.refl _))))))) hk
            · intro hb110 hk
              refine o_guard_no rfl 171 rfl rfl rfl rfl rfl ?_
              refine o_guard_no rfl 171 rfl rfl rfl rfl rfl ?_
              refine o_guard_no rfl 171 rfl rfl rfl rfl rfl ?_
              refine o_pure (p_pick_false (v := .bool false) rfl rfl) rfl rfl rfl ?_
              exact o_sub (Sub.cons rfl (Sub.skip rfl (Sub.skip rfl (Sub.skip rfl (Sub.skip rfl (Sub.skip rfl (Sub.refl _))))))) hk
            refine o_pure (p_move (v := .bool ((((((((((((Lru.check c) == (Lru.check c)) && ((Lru.trace l) == (Lru.trace l))) && (decide (((Lru.access c key).1) = (⟨0, []⟩ : DCache)))) && (((Lru.access c key).2.1) == false)) && (((Lru.access c key).2.2) == 0)) && ((Lru.accessErr c key) == 3)) && (decide (((Lru.run c l).1) = (⟨0, []⟩ : DCache)))) && (((Lru.run c l).2) == 0)) && ((Lru.runErr c l) == (Lru.trace l))) && (decide (((Lru.resize c room).1) = sc))) && (Ref.sameInts ((Lru.resize c room).2) less_))) rfl) rfl rfl rfl ?_
            refine o_and (p := 180) 4 ((Lru.sizeErr c room) == (Lru.check c)) ?_ ?_ ?_
            · intro hb111 hk
              simp only [Bool.and_eq_true, beq_iff_eq, decide_eq_true_eq] at hb111
              refine o_unguard 176 rfl rfl ?_
              refine o_pure (p_move (v := .int .i64 (Lru.sizeErr c room)) rfl) rfl rfl rfl ?_
              refine o_unguard 176 rfl rfl ?_
              refine o_pure (p_move (v := .int .i64 (Lru.check c)) rfl) rfl rfl rfl ?_
              refine o_unguard 176 rfl rfl ?_
              refine o_pure (p_eq (p := (Lru.sizeErr c room)) (q := (Lru.check c)) rfl rfl) rfl rfl rfl ?_
              refine o_pure (p_pick_true (u := .bool ((Lru.sizeErr c room) == (Lru.check c))) rfl rfl) rfl rfl rfl ?_
              exact o_sub (Sub.cons rfl (Sub.skip rfl (Sub.skip rfl (Sub.skip rfl (Sub.skip rfl (Sub.skip rfl (Sub.refl _))))))) hk
            · intro hb111 hk
              refine o_guard_no rfl 176 rfl rfl rfl rfl rfl ?_
              refine o_guard_no rfl 176 rfl rfl rfl rfl rfl ?_
              refine o_guard_no rfl 176 rfl rfl rfl rfl rfl ?_
              refine o_pure (p_pick_false (v := .bool false) rfl rfl) rfl rfl rfl ?_
              exact o_sub (Sub.cons rfl (Sub.skip rfl (Sub.skip rfl (Sub.skip rfl (Sub.skip rfl (Sub.skip rfl (Sub.refl _))))))) hk
            refine o_pure (p_assign (v := .bool (((((((((((((Lru.check c) == (Lru.check c)) && ((Lru.trace l) == (Lru.trace l))) && (decide (((Lru.access c key).1) = (⟨0, []⟩ : DCache)))) && (((Lru.access c key).2.1) == false)) && (((Lru.access c key).2.2) == 0)) && ((Lru.accessErr c key) == 3)) && (decide (((Lru.run c l).1) = (⟨0, []⟩ : DCache)))) && (((Lru.run c l).2) == 0)) && ((Lru.runErr c l) == (Lru.trace l))) && (decide (((Lru.resize c room).1) = sc))) && (Ref.sameInts ((Lru.resize c room).2) less_)) && ((Lru.sizeErr c room) == (Lru.check c)))) rfl) rfl rfl rfl ?_
            refine o_nil ?_
            refine q_then ?_
            refine c_ret ?_
            have hr0 : ((((((((((((((Lru.check c) == (Lru.check c)) && ((Lru.trace l) == (Lru.trace l))) && (decide (((Lru.access c key).1) = (⟨0, []⟩ : DCache)))) && (((Lru.access c key).2.1) == false)) && (((Lru.access c key).2.2) == 0)) && ((Lru.accessErr c key) == 3)) && (decide (((Lru.run c l).1) = (⟨0, []⟩ : DCache)))) && (((Lru.run c l).2) == 0)) && ((Lru.runErr c l) == (Lru.trace l))) && (decide (((Lru.resize c room).1) = sc))) && (Ref.sameInts ((Lru.resize c room).2) less_)) && ((Lru.sizeErr c room) == (Lru.check c))) : Bool) = true := by
              rcases Lru.acc_num c key with ⟨a0, a1, a2⟩ | ⟨a0, a3, a1, a2⟩ | ⟨a0, a3, a1, a2⟩ <;> rcases Lru.run_cases c l with ⟨b0, b1, b2⟩ | ⟨b0, b3, b1, b2⟩ | ⟨b0, b3, b1, b2⟩ <;> rcases Lru.size_num c room with ⟨s0, s1, s2⟩ | ⟨s0, s3, s1, s2⟩ | ⟨s0, s3, s1, s2⟩ <;> first | (exfalso; omega) | (rw [a1, a2, b1, b2, s1, s2]; first | (simp [Lru.zero, Ref.sameInts, a0]; done) | (simp [Lru.zero, Ref.sameInts, a0, b3]; done) | (obtain ⟨hz1, hz2⟩ := hI.done (by omega); rw [hz1, hz2]; first | (simp [Lru.zero, Ref.sameInts, a0]; done) | (simp [Lru.zero, Ref.sameInts, a0, b3]; done)))
            refine q_end0 (v := .bool (((((((((((((Lru.check c) == (Lru.check c)) && ((Lru.trace l) == (Lru.trace l))) && (decide (((Lru.access c key).1) = (⟨0, []⟩ : DCache)))) && (((Lru.access c key).2.1) == false)) && (((Lru.access c key).2.2) == 0)) && ((Lru.accessErr c key) == 3)) && (decide (((Lru.run c l).1) = (⟨0, []⟩ : DCache)))) && (((Lru.run c l).2) == 0)) && ((Lru.runErr c l) == (Lru.trace l))) && (decide (((Lru.resize c room).1) = sc))) && (Ref.sameInts ((Lru.resize c room).2) less_)) && ((Lru.sizeErr c room) == (Lru.check c)))) (rt1 rfl (r_tmp rfl)) (i := 12) rfl ?_
            exact (by have hcc := congrArg (fun (y0 : Bool) => (.bool y0 : Value)) hr0; exact hcc)
    · simp only [Bool.or_eq_false_iff, decide_eq_false_iff_not, Int.not_lt] at hc28
      refine c_region ?_
      refine o_pure (p_load_agg (i := 9) (vs := [.int .i64 c.room, .slice ac_0 c.keys.length cc_0]) rfl rfl sh72 rfl rfl) rfl rfl rfl ?_
      refine o_pure (p_move (v := .int .i64 key) rfl) rfl rfl rfl ?_
      refine o_callM rfl (lruTouch_ok c ac_0 cc_0 key (by first | assumption | exact hI.ok | omega)) hf55 (fun w hw => (rd_base (i := 10) rfl hc_0) w hw) rfl (fun _ _ _ _ ha hA => SlO.agree ha hA) ?_
      rintro ⟨a114, c115⟩ S112
      refine o_know (fun w hw => own_len (i := 0) (T := tInt) hw rfl) (fun hlr116 => ?_)
      refine o_pure (p_move (v := .tuple #[.agg #[.int .i64 (((Lru.touch c key).1).room), .slice a114 (((Lru.touch c key).1).keys).length c115], .bool ((Lru.touch c key).2.1), .int .i64 ((Lru.touch c key).2.2)]) rfl) rfl rfl rfl ?_
      refine o_pure (p_extract (vs := [.agg #[.int .i64 (((Lru.touch c key).1).room), .slice a114 (((Lru.touch c key).1).keys).length c115], .bool ((Lru.touch c key).2.1), .int .i64 ((Lru.touch c key).2.2)]) (v := .agg #[.int .i64 (((Lru.touch c key).1).room), .slice a114 (((Lru.touch c key).1).keys).length c115]) rfl rfl) rfl rfl rfl ?_
      refine o_pure (p_extract (vs := [.agg #[.int .i64 (((Lru.touch c key).1).room), .slice a114 (((Lru.touch c key).1).keys).length c115], .bool ((Lru.touch c key).2.1), .int .i64 ((Lru.touch c key).2.2)]) (v := .bool ((Lru.touch c key).2.1)) rfl rfl) rfl rfl rfl ?_
      refine o_pure (p_extract (vs := [.agg #[.int .i64 (((Lru.touch c key).1).room), .slice a114 (((Lru.touch c key).1).keys).length c115], .bool ((Lru.touch c key).2.1), .int .i64 ((Lru.touch c key).2.2)]) (v := .int .i64 ((Lru.touch c key).2.2)) rfl rfl) rfl rfl rfl ?_
      refine o_storeN (i := 3) (vs := [.int .i64 (((Lru.touch c key).1).room), .slice a114 (((Lru.touch c key).1).keys).length c115]) (cs' := [.int .i64 (((Lru.touch c key).1).room), .slice a114 (((Lru.touch c key).1).keys).length c115]) rfl rfl rfl sz72 rfl rfl rfl rfl ?_
      refine o_pure (p_assign (v := .bool ((Lru.touch c key).2.1)) rfl) rfl rfl rfl ?_
      refine o_pure (p_assign (v := .int .i64 ((Lru.touch c key).2.2)) rfl) rfl rfl rfl ?_
      refine o_nil ?_
      refine q_then ?_
      refine c_seq ?_
      refine c_seq ?_
      refine c_region ?_
      refine o_pure (p_move (v := .slice al l.length cl) rfl) rfl rfl rfl ?_
      refine o_call0 (v := .int .i64 (Lru.trace l)) rfl (traceCheck_ok l al cl) hf44 (fun w hw => (rd_base (i := 11) rfl hl) w hw) rfl ?_
      refine o_pure (p_assign (v := .int .i64 (Lru.trace l)) rfl) rfl rfl rfl ?_
      refine o_nil ?_
      refine q_then ?_
      refine c_seq ?_
      refine c_region ?_
      refine o_pure (p_move (v := .int .i64 (Lru.trace l)) rfl) rfl rfl rfl ?_
      refine o_pure (p_eq (p := (Lru.trace l)) (q := 0) rfl rfl) rfl rfl rfl ?_
      refine o_nil ?_
      refine q_then ?_
      refine c_cond (b := ((Lru.trace l) == 0)) rfl (fun hc117 => ?_) (fun hc117 => ?_)
      · simp only [beq_iff_eq] at hc117
        have hkeys := (Lru.trace_ok.1 hc117).2
        refine c_region ?_
        refine o_pure (p_load_agg (i := 10) (vs := [.int .i64 c.room, .slice ac_0 c.keys.length cc_0]) rfl rfl sh72 rfl rfl) rfl rfl rfl ?_
        refine o_pure (p_move (v := .slice al l.length cl) rfl) rfl rfl rfl ?_
        refine o_callM rfl (lruRun_ok c ac_0 cc_0 l al cl (by first | assumption | exact ⟨hok, hkeys⟩)) hf56 (fun w hw => ⟨(rd_base (i := 11) rfl hc_0) w hw, (rd_base (i := 11) rfl hl) w hw⟩) rfl (fun _ _ _ _ ha hA => hA.imp (fun h => SlR.agree ha h) id) ?_
        rintro ⟨a120, c121⟩ S118
        refine o_pure (p_move (v := .tuple #[.agg #[.int .i64 (((Lru.runGo c 0 l).1).room), .slice a120 (((Lru.runGo c 0 l).1).keys).length c121], .int .i64 ((Lru.runGo c 0 l).2)]) rfl) rfl rfl rfl ?_
        refine o_pure (p_extract (vs := [.agg #[.int .i64 (((Lru.runGo c 0 l).1).room), .slice a120 (((Lru.runGo c 0 l).1).keys).length c121], .int .i64 ((Lru.runGo c 0 l).2)]) (v := .agg #[.int .i64 (((Lru.runGo c 0 l).1).room), .slice a120 (((Lru.runGo c 0 l).1).keys).length c121]) rfl rfl) rfl rfl rfl ?_
        refine o_pure (p_extract (vs := [.agg #[.int .i64 (((Lru.runGo c 0 l).1).room), .slice a120 (((Lru.runGo c 0 l).1).keys).length c121], .int .i64 ((Lru.runGo c 0 l).2)]) (v := .int .i64 ((Lru.runGo c 0 l).2)) rfl rfl) rfl rfl rfl ?_
        refine o_storeN (i := 3) (vs := [.int .i64 (((Lru.runGo c 0 l).1).room), .slice a120 (((Lru.runGo c 0 l).1).keys).length c121]) (cs' := [.int .i64 (((Lru.runGo c 0 l).1).room), .slice a120 (((Lru.runGo c 0 l).1).keys).length c121]) rfl rfl rfl sz72 rfl rfl rfl rfl ?_
        refine o_pure (p_assign (v := .int .i64 ((Lru.runGo c 0 l).2)) rfl) rfl rfl rfl ?_
        refine o_nil ?_
        refine q_then ?_
        refine c_seq ?_
        refine c_region ?_
        refine o_pure (p_move (v := .int .i64 room) rfl) rfl rfl rfl ?_
        refine o_pure (p_lt (p := room) (q := 1) rfl rfl) rfl rfl rfl ?_
        refine o_pure (p_move (v := .bool (decide (room < 1))) rfl) rfl rfl rfl ?_
        refine o_or (p := 88) 3 (decide (40 < room)) ?_ ?_ ?_
        · intro hb122 hk
          simp only [decide_eq_false_iff_not, Int.not_lt] at hb122
          refine o_unguard 85 rfl rfl ?_
          refine o_pure (p_move (v := .int .i64 room) rfl) rfl rfl rfl ?_
          refine o_unguard 85 rfl rfl ?_
          refine o_pure (p_gt (p := room) (q := 40) rfl rfl) rfl rfl rfl ?_
          refine o_pure (p_pick_false (v := .bool (decide (40 < room))) rfl rfl) rfl rfl rfl ?_
          exact o_sub (Sub.cons rfl (Sub.skip rfl (Sub.skip rfl (Sub.skip rfl (Sub.skip rfl (Sub.refl _)))))) hk
        · intro hb122 hk
          refine o_guard_no rfl 85 rfl rfl rfl rfl rfl ?_
          refine o_guard_no rfl 85 rfl rfl rfl rfl rfl ?_
          refine o_pure (p_pick_true (u := .bool true) rfl rfl) rfl rfl rfl ?_
          exact o_sub (Sub.cons rfl (Sub.skip rfl (Sub.skip rfl (Sub.skip rfl (Sub.skip rfl (Sub.refl _)))))) hk
        refine o_nil ?_
        refine q_then ?_
        refine c_cond (b := (decide (room < 1) || decide (40 < room))) rfl (fun hc123 => ?_) (fun hc123 => ?_)
        · simp only [Bool.or_eq_true, decide_eq_true_eq] at hc123
          refine c_region ?_
          refine o_pure (p_assign (v := .int .i64 3) rfl) rfl rfl rfl ?_
          refine o_nil ?_
          refine q_then ?_
          refine c_seq ?_
          refine c_region ?_
          refine o_call0 (v := .bool true) rfl (lruBegun_ok ) hf57 (fun _ _ => trivial) rfl ?_
          refine o_pure (p_move (v := .bool true) rfl) rfl rfl rfl ?_
          refine o_unguard 118 rfl rfl ?_
          refine o_pure (p_load_agg (i := 11) (vs := [.int .i64 c.room, .slice ac_0 c.keys.length cc_0]) rfl rfl sh72 rfl rfl) rfl rfl rfl ?_
          refine o_unguard 118 rfl rfl ?_
          refine o_call0 (v := .int .i64 (Lru.check c)) rfl (lcheck_ok c ac_0 cc_0) hf58 (fun w hw => (rd_base (i := 12) rfl hc_0) w hw) rfl ?_
          refine o_unguard 118 rfl rfl ?_
          refine o_pure (p_move (v := .int .i64 (Lru.check c)) rfl) rfl rfl rfl ?_
          refine o_unguard 118 rfl rfl ?_
          refine o_pure (p_eq (p := (Lru.check c)) (q := (Lru.check c)) rfl rfl) rfl rfl rfl ?_
          refine o_pure (p_pick_true (u := .bool ((Lru.check c) == (Lru.check c))) rfl rfl) rfl rfl rfl ?_
          refine o_pure (p_move (v := .bool ((Lru.check c) == (Lru.check c))) rfl) rfl rfl rfl ?_
          refine o_and (p := 130) 6 ((Lru.trace l) == (Lru.trace l)) ?_ ?_ ?_
          · intro hb124 hk
            simp only [beq_iff_eq] at hb124
            refine o_unguard 124 rfl rfl ?_
            refine o_pure (p_move (v := .slice al l.length cl) rfl) rfl rfl rfl ?_
            refine o_unguard 124 rfl rfl ?_
            refine o_call0 (v := .int .i64 (Lru.trace l)) rfl (checkTrace_ok l al cl) hf59 (fun w hw => (rd_base (i := 12) rfl hl) w hw) rfl ?_
            refine o_unguard 124 rfl rfl ?_
            refine o_pure (p_move (v := .slice al l.length cl) rfl) rfl rfl rfl ?_
            refine o_unguard 124 rfl rfl ?_
            refine o_call0 (v := .int .i64 (Lru.trace l)) rfl (traceCheck_ok l al cl) hf44 (fun w hw => (rd_base (i := 12) rfl hl) w hw) rfl ?_
            refine o_unguard 124 rfl rfl ?_
            refine o_pure (p_eq (p := (Lru.trace l)) (q := (Lru.trace l)) rfl rfl) rfl rfl rfl ?_
            refine o_pure (p_pick_true (u := .bool ((Lru.trace l) == (Lru.trace l))) rfl rfl) rfl rfl rfl ?_
            exact o_sub (Sub.cons rfl (Sub.skip rfl (Sub.skip rfl (Sub.skip rfl (Sub.skip rfl (Sub.skip rfl (Sub.skip rfl (Sub.skip rfl (Sub.refl _))))))))) hk
          · intro hb124 hk
            refine o_guard_no rfl 124 rfl rfl rfl rfl rfl ?_
            refine o_guard_no rfl 124 rfl rfl rfl rfl rfl ?_
            refine o_guard_no rfl 124 rfl rfl rfl rfl rfl ?_
            refine o_guard_no rfl 124 rfl rfl rfl rfl rfl ?_
            refine o_guard_no rfl 124 rfl rfl rfl rfl rfl ?_
            refine o_pure (p_pick_false (v := .bool false) rfl rfl) rfl rfl rfl ?_
            exact o_sub (Sub.cons rfl (Sub.skip rfl (Sub.skip rfl (Sub.skip rfl (Sub.skip rfl (Sub.skip rfl (Sub.skip rfl (Sub.skip rfl (Sub.refl _))))))))) hk
          refine o_pure (p_move (v := .bool (((Lru.check c) == (Lru.check c)) && ((Lru.trace l) == (Lru.trace l)))) rfl) rfl rfl rfl ?_
          refine o_and (p := 135) 4 (decide (((Lru.access c key).1) = ((Lru.touch c key).1))) ?_ ?_ ?_
          · intro hb125 hk
            simp only [Bool.and_eq_true, beq_iff_eq] at hb125
            refine o_unguard 131 rfl rfl ?_
            refine o_pure (p_load_agg (i := 9) (vs := [.int .i64 (((Lru.access c key).1).room), .slice a4 (((Lru.access c key).1).keys).length c5]) rfl rfl sh72 rfl rfl) rfl rfl rfl ?_
            refine o_unguard 131 rfl rfl ?_
            refine o_pure (p_load_agg (i := 4) (vs := [.int .i64 (((Lru.touch c key).1).room), .slice a114 (((Lru.touch c key).1).keys).length c115]) rfl rfl sh72 rfl rfl) rfl rfl rfl ?_
            refine o_unguard 131 rfl rfl ?_
            refine o_call0 (v := .bool (decide (((Lru.access c key).1) = ((Lru.touch c key).1)))) rfl (sameCache_ok ((Lru.access c key).1) a4 c5 ((Lru.touch c key).1) a114 c115) hf60 (fun w hw => ⟨(rd_own (i := 10) rfl) w hw, (rd_own (i := 1) rfl) w hw⟩) rfl ?_
            refine o_pure (p_pick_true (u := .bool (decide (((Lru.access c key).1) = ((Lru.touch c key).1)))) rfl rfl) rfl rfl rfl ?_
            exact o_sub (Sub.cons rfl (Sub.skip rfl (Sub.skip rfl (Sub.skip rfl (Sub.skip rfl (Sub.skip rfl (Sub.refl _))))))) hk
          · intro hb125 hk
            refine o_guard_no rfl 131 rfl rfl rfl rfl rfl ?_
            refine o_guard_no rfl 131 rfl rfl rfl rfl rfl ?_
            refine o_guard_no rfl 131 rfl rfl rfl rfl rfl ?_
            refine o_pure (p_pick_false (v := .bool false) rfl rfl) rfl rfl rfl ?_
            exact o_sub (Sub.cons rfl (Sub.skip rfl (Sub.skip rfl (Sub.skip rfl (Sub.skip rfl (Sub.skip rfl (Sub.refl _))))))) hk
          refine o_pure (p_move (v := .bool ((((Lru.check c) == (Lru.check c)) && ((Lru.trace l) == (Lru.trace l))) && (decide (((Lru.access c key).1) = ((Lru.touch c key).1))))) rfl) rfl rfl rfl ?_
          refine o_and (p := 140) 4 (((Lru.access c key).2.1) == ((Lru.touch c key).2.1)) ?_ ?_ ?_
          · intro hb126 hk
            simp only [Bool.and_eq_true, beq_iff_eq, decide_eq_true_eq] at hb126
            refine o_unguard 136 rfl rfl ?_
            refine o_pure (p_move (v := .bool ((Lru.access c key).2.1)) rfl) rfl rfl rfl ?_
            refine o_unguard 136 rfl rfl ?_
            refine o_pure (p_move (v := .bool ((Lru.touch c key).2.1)) rfl) rfl rfl rfl ?_
            refine o_unguard 136 rfl rfl ?_
            refine o_pure (p_eqBool (b := ((Lru.access c key).2.1)) (c := ((Lru.touch c key).2.1)) rfl rfl Try.underlying4) rfl rfl rfl ?_
            refine o_pure (p_pick_true (u := .bool (((Lru.access c key).2.1) == ((Lru.touch c key).2.1))) rfl rfl) rfl rfl rfl ?_
            exact o_sub (Sub.cons rfl (Sub.skip rfl (Sub.skip rfl (Sub.skip rfl (Sub.skip rfl (Sub.skip rfl (Sub.refl _))))))) hk
          · intro hb126 hk
            refine o_guard_no rfl 136 rfl rfl rfl rfl rfl ?_
            refine o_guard_no rfl 136 rfl rfl rfl rfl rfl ?_
            refine o_guard_no rfl 136 rfl rfl rfl rfl rfl ?_
            refine o_pure (p_pick_false (v := .bool false) rfl rfl) rfl rfl rfl ?_
            exact o_sub (Sub.cons rfl (Sub.skip rfl (Sub.skip rfl (Sub.skip rfl (Sub.skip rfl (Sub.skip rfl (Sub.refl _))))))) hk
          refine o_pure (p_move (v := .bool (((((Lru.check c) == (Lru.check c)) && ((Lru.trace l) == (Lru.trace l))) && (decide (((Lru.access c key).1) = ((Lru.touch c key).1)))) && (((Lru.access c key).2.1) == ((Lru.touch c key).2.1)))) rfl) rfl rfl rfl ?_
          refine o_and (p := 145) 4 (((Lru.access c key).2.2) == ((Lru.touch c key).2.2)) ?_ ?_ ?_
          · intro hb127 hk
            simp only [Bool.and_eq_true, beq_iff_eq, decide_eq_true_eq] at hb127
            refine o_unguard 141 rfl rfl ?_
            refine o_pure (p_move (v := .int .i64 ((Lru.access c key).2.2)) rfl) rfl rfl rfl ?_
            refine o_unguard 141 rfl rfl ?_
            refine o_pure (p_move (v := .int .i64 ((Lru.touch c key).2.2)) rfl) rfl rfl rfl ?_
            refine o_unguard 141 rfl rfl ?_
            refine o_pure (p_eq (p := ((Lru.access c key).2.2)) (q := ((Lru.touch c key).2.2)) rfl rfl) rfl rfl rfl ?_
            refine o_pure (p_pick_true (u := .bool (((Lru.access c key).2.2) == ((Lru.touch c key).2.2))) rfl rfl) rfl rfl rfl ?_
            exact o_sub (Sub.cons rfl (Sub.skip rfl (Sub.skip rfl (Sub.skip rfl (Sub.skip rfl (Sub.skip rfl (Sub.refl _))))))) hk
          · intro hb127 hk
            refine o_guard_no rfl 141 rfl rfl rfl rfl rfl ?_
            refine o_guard_no rfl 141 rfl rfl rfl rfl rfl ?_
            refine o_guard_no rfl 141 rfl rfl rfl rfl rfl ?_
            refine o_pure (p_pick_false (v := .bool false) rfl rfl) rfl rfl rfl ?_
            exact o_sub (Sub.cons rfl (Sub.skip rfl (Sub.skip rfl (Sub.skip rfl (Sub.skip rfl (Sub.skip rfl (Sub.refl _))))))) hk
          refine o_pure (p_move (v := .bool ((((((Lru.check c) == (Lru.check c)) && ((Lru.trace l) == (Lru.trace l))) && (decide (((Lru.access c key).1) = ((Lru.touch c key).1)))) && (((Lru.access c key).2.1) == ((Lru.touch c key).2.1))) && (((Lru.access c key).2.2) == ((Lru.touch c key).2.2)))) rfl) rfl rfl rfl ?_
          refine o_and (p := 150) 4 ((Lru.accessErr c key) == (Lru.check c)) ?_ ?_ ?_
          · intro hb128 hk
            simp only [Bool.and_eq_true, beq_iff_eq, decide_eq_true_eq] at hb128
            refine o_unguard 146 rfl rfl ?_
            refine o_pure (p_move (v := .int .i64 (Lru.accessErr c key)) rfl) rfl rfl rfl ?_
            refine o_unguard 146 rfl rfl ?_
            refine o_pure (p_move (v := .int .i64 (Lru.check c)) rfl) rfl rfl rfl ?_
            refine o_unguard 146 rfl rfl ?_
            refine o_pure (p_eq (p := (Lru.accessErr c key)) (q := (Lru.check c)) rfl rfl) rfl rfl rfl ?_
            refine o_pure (p_pick_true (u := .bool ((Lru.accessErr c key) == (Lru.check c))) rfl rfl) rfl rfl rfl ?_
            exact o_sub (Sub.cons rfl (Sub.skip rfl (Sub.skip rfl (Sub.skip rfl (Sub.skip rfl (Sub.skip rfl (Sub.refl _))))))) hk
          · intro hb128 hk
            refine o_guard_no rfl 146 rfl rfl rfl rfl rfl ?_
            refine o_guard_no rfl 146 rfl rfl rfl rfl rfl ?_
            refine o_guard_no rfl 146 rfl rfl rfl rfl rfl ?_
            refine o_pure (p_pick_false (v := .bool false) rfl rfl) rfl rfl rfl ?_
            exact o_sub (Sub.cons rfl (Sub.skip rfl (Sub.skip rfl (Sub.skip rfl (Sub.skip rfl (Sub.skip rfl (Sub.refl _))))))) hk
          refine o_pure (p_move (v := .bool (((((((Lru.check c) == (Lru.check c)) && ((Lru.trace l) == (Lru.trace l))) && (decide (((Lru.access c key).1) = ((Lru.touch c key).1)))) && (((Lru.access c key).2.1) == ((Lru.touch c key).2.1))) && (((Lru.access c key).2.2) == ((Lru.touch c key).2.2))) && ((Lru.accessErr c key) == (Lru.check c)))) rfl) rfl rfl rfl ?_
          refine o_and (p := 155) 4 (decide (((Lru.run c l).1) = ((Lru.runGo c 0 l).1))) ?_ ?_ ?_
          · intro hb129 hk
            simp only [Bool.and_eq_true, beq_iff_eq, decide_eq_true_eq] at hb129
            refine o_unguard 151 rfl rfl ?_
            refine o_pure (p_load_agg (i := 7) (vs := [.int .i64 (((Lru.run c l).1).room), .slice a10 (((Lru.run c l).1).keys).length c11]) rfl rfl sh72 rfl rfl) rfl rfl rfl ?_
            refine o_unguard 151 rfl rfl ?_
            refine o_pure (p_load_agg (i := 3) (vs := [.int .i64 (((Lru.runGo c 0 l).1).room), .slice a120 (((Lru.runGo c 0 l).1).keys).length c121]) rfl rfl sh72 rfl rfl) rfl rfl rfl ?_
            refine o_unguard 151 rfl rfl ?_
            refine o_call0 (v := .bool (decide (((Lru.run c l).1) = ((Lru.runGo c 0 l).1)))) rfl (sameCache_ok ((Lru.run c l).1) a10 c11 ((Lru.runGo c 0 l).1) a120 c121) hf60 (fun w hw => ⟨(rd_own (i := 8) rfl) w hw, (rd_loose (i := 0) rfl (fun hφ => by obtain ⟨h1, h2, h3⟩ := hφ; intro w hw; have g1 : a120 = ac_0 := h1; have g2 : c121 = cc_0 := h2; have g3 : ((Lru.runGo c 0 l).1).keys = c.keys := h3; rw [g1, g2, g3]; exact (rd_base (i := 12) rfl hc_0) w hw)) w hw⟩) rfl ?_
            refine o_pure (p_pick_true (u := .bool (decide (((Lru.run c l).1) = ((Lru.runGo c 0 l).1)))) rfl rfl) rfl rfl rfl ?_
            exact o_sub (Sub.cons rfl (Sub.skip rfl (Sub.skip rfl (Sub.skip rfl (Sub.skip rfl (Sub.skip rfl (Sub.refl _))))))) hk
          · intro hb129 hk
            refine o_guard_no rfl 151 rfl rfl rfl rfl rfl ?_
            refine o_guard_no rfl 151 rfl rfl rfl rfl rfl ?_
            refine o_guard_no rfl 151 rfl rfl rfl rfl rfl ?_
            refine o_pure (p_pick_false (v := .bool false) rfl rfl) rfl rfl rfl ?_
            exact o_sub (Sub.cons rfl (Sub.skip rfl (Sub.skip rfl (Sub.skip rfl (Sub.skip rfl (Sub.skip rfl (Sub.refl _))))))) hk
          refine o_pure (p_move (v := .bool ((((((((Lru.check c) == (Lru.check c)) && ((Lru.trace l) == (Lru.trace l))) && (decide (((Lru.access c key).1) = ((Lru.touch c key).1)))) && (((Lru.access c key).2.1) == ((Lru.touch c key).2.1))) && (((Lru.access c key).2.2) == ((Lru.touch c key).2.2))) && ((Lru.accessErr c key) == (Lru.check c))) && (decide (((Lru.run c l).1) = ((Lru.runGo c 0 l).1))))) rfl) rfl rfl rfl ?_
          refine o_and (p := 160) 4 (((Lru.run c l).2) == ((Lru.runGo c 0 l).2)) ?_ ?_ ?_
          · intro hb130 hk
            simp only [Bool.and_eq_true, beq_iff_eq, decide_eq_true_eq] at hb130
            refine o_unguard 156 rfl rfl ?_
            refine o_pure (p_move (v := .int .i64 ((Lru.run c l).2)) rfl) rfl rfl rfl ?_
            refine o_unguard 156 rfl rfl ?_
            refine o_pure (p_move (v := .int .i64 ((Lru.runGo c 0 l).2)) rfl) rfl rfl rfl ?_
            refine o_unguard 156 rfl rfl ?_
            refine o_pure (p_eq (p := ((Lru.run c l).2)) (q := ((Lru.runGo c 0 l).2)) rfl rfl) rfl rfl rfl ?_
            refine o_pure (p_pick_true (u := .bool (((Lru.run c l).2) == ((Lru.runGo c 0 l).2))) rfl rfl) rfl rfl rfl ?_
            exact o_sub (Sub.cons rfl (Sub.skip rfl (Sub.skip rfl (Sub.skip rfl (Sub.skip rfl (Sub.skip rfl (Sub.refl _))))))) hk
          · intro hb130 hk
            refine o_guard_no rfl 156 rfl rfl rfl rfl rfl ?_
            refine o_guard_no rfl 156 rfl rfl rfl rfl rfl ?_
            refine o_guard_no rfl 156 rfl rfl rfl rfl rfl ?_
            refine o_pure (p_pick_false (v := .bool false) rfl rfl) rfl rfl rfl ?_
            exact o_sub (Sub.cons rfl (Sub.skip rfl (Sub.skip rfl (Sub.skip rfl (Sub.skip rfl (Sub.skip rfl (Sub.refl _))))))) hk
          refine o_pure (p_move (v := .bool (((((((((Lru.check c) == (Lru.check c)) && ((Lru.trace l) == (Lru.trace l))) && (decide (((Lru.access c key).1) = ((Lru.touch c key).1)))) && (((Lru.access c key).2.1) == ((Lru.touch c key).2.1))) && (((Lru.access c key).2.2) == ((Lru.touch c key).2.2))) && ((Lru.accessErr c key) == (Lru.check c))) && (decide (((Lru.run c l).1) = ((Lru.runGo c 0 l).1)))) && (((Lru.run c l).2) == ((Lru.runGo c 0 l).2)))) rfl) rfl rfl rfl ?_
          refine o_and (p := 165) 4 ((Lru.runErr c l) == (Lru.trace l)) ?_ ?_ ?_
          · intro hb131 hk
            simp only [Bool.and_eq_true, beq_iff_eq, decide_eq_true_eq] at hb131
            refine o_unguard 161 rfl rfl ?_
            refine o_pure (p_move (v := .int .i64 (Lru.runErr c l)) rfl) rfl rfl rfl ?_
            refine o_unguard 161 rfl rfl ?_
            refine o_pure (p_move (v := .int .i64 (Lru.trace l)) rfl) rfl rfl rfl ?_
            refine o_unguard 161 rfl rfl ?_
            refine o_pure (p_eq (p := (Lru.runErr c l)) (q := (Lru.trace l)) rfl rfl) rfl rfl rfl ?_
            refine o_pure (p_pick_true (u := .bool ((Lru.runErr c l) == (Lru.trace l))) rfl rfl) rfl rfl rfl ?_
            exact o_sub (Sub.cons rfl (Sub.skip rfl (Sub.skip rfl (Sub.skip rfl (Sub.skip rfl (Sub.skip rfl (Sub.refl _))))))) hk
          · intro hb131 hk
            refine o_guard_no rfl 161 rfl rfl rfl rfl rfl ?_
            refine o_guard_no rfl 161 rfl rfl rfl rfl rfl ?_
            refine o_guard_no rfl 161 rfl rfl rfl rfl rfl ?_
            refine o_pure (p_pick_false (v := .bool false) rfl rfl) rfl rfl rfl ?_
            exact o_sub (Sub.cons rfl (Sub.skip rfl (Sub.skip rfl (Sub.skip rfl (Sub.skip rfl (Sub.skip rfl (Sub.refl _))))))) hk
          refine o_pure (p_move (v := .bool ((((((((((Lru.check c) == (Lru.check c)) && ((Lru.trace l) == (Lru.trace l))) && (decide (((Lru.access c key).1) = ((Lru.touch c key).1)))) && (((Lru.access c key).2.1) == ((Lru.touch c key).2.1))) && (((Lru.access c key).2.2) == ((Lru.touch c key).2.2))) && ((Lru.accessErr c key) == (Lru.check c))) && (decide (((Lru.run c l).1) = ((Lru.runGo c 0 l).1)))) && (((Lru.run c l).2) == ((Lru.runGo c 0 l).2))) && ((Lru.runErr c l) == (Lru.trace l)))) rfl) rfl rfl rfl ?_
          refine o_and (p := 170) 4 (decide (((Lru.resize c room).1) = (⟨0, []⟩ : DCache))) ?_ ?_ ?_
          · intro hb132 hk
            simp only [Bool.and_eq_true, beq_iff_eq, decide_eq_true_eq] at hb132
            refine o_unguard 166 rfl rfl ?_
            refine o_pure (p_load_agg (i := 5) (vs := [.int .i64 (((Lru.resize c room).1).room), .slice a16 (((Lru.resize c room).1).keys).length c17]) rfl rfl sh72 rfl rfl) rfl rfl rfl ?_
            refine o_unguard 166 rfl rfl ?_
            refine o_pure (p_load_agg (i := 2) (vs := [.int .i64 0, .slice none 0 0]) rfl rfl sh72 rfl rfl) rfl rfl rfl ?_
            refine o_unguard 166 rfl rfl ?_
            refine o_call0 (v := .bool (decide (((Lru.resize c room).1) = (⟨0, []⟩ : DCache)))) rfl (sameCache_ok ((Lru.resize c room).1) a16 c17 (⟨0, []⟩ : DCache) none 0) hf60 (fun w hw => ⟨(rd_ent (i := 6) rfl (fun w h => h.1)) w hw, rd_nil w hw⟩) rfl ?_
            refine o_pure (p_pick_true (u := .bool (decide (((Lru.resize c room).1) = (⟨0, []⟩ : DCache)))) rfl rfl) rfl rfl rfl ?_
            exact o_sub (Sub.cons rfl (Sub.skip rfl (Sub.skip rfl (Sub.skip rfl (Sub.skip rfl (Sub.skip rfl (Sub.refl _))))))) hk
          · intro hb132 hk
            refine o_guard_no rfl 166 rfl rfl rfl rfl rfl ?_
            refine o_guard_no rfl 166 rfl rfl rfl rfl rfl ?_
            refine o_guard_no rfl 166 rfl rfl rfl rfl rfl ?_
            refine o_pure (p_pick_false (v := .bool false) rfl rfl) rfl rfl rfl ?_
            exact o_sub (Sub.cons rfl (Sub.skip rfl (Sub.skip rfl (Sub.skip rfl (Sub.skip rfl (Sub.skip rfl (Sub.refl _))))))) hk
          refine o_pure (p_move (v := .bool (((((((((((Lru.check c) == (Lru.check c)) && ((Lru.trace l) == (Lru.trace l))) && (decide (((Lru.access c key).1) = ((Lru.touch c key).1)))) && (((Lru.access c key).2.1) == ((Lru.touch c key).2.1))) && (((Lru.access c key).2.2) == ((Lru.touch c key).2.2))) && ((Lru.accessErr c key) == (Lru.check c))) && (decide (((Lru.run c l).1) = ((Lru.runGo c 0 l).1)))) && (((Lru.run c l).2) == ((Lru.runGo c 0 l).2))) && ((Lru.runErr c l) == (Lru.trace l))) && (decide (((Lru.resize c room).1) = (⟨0, []⟩ : DCache))))) rfl) rfl rfl rfl ?_
          refine o_and (p := 175) 4 (Ref.sameInts ((Lru.resize c room).2) []) ?_ ?_ ?_
          · intro hb133 hk
            simp only [Bool.and_eq_true, beq_iff_eq, decide_eq_true_eq] at hb133
            refine o_unguard 171 rfl rfl ?_
            refine o_pure (p_move (v := .slice a18 ((Lru.resize c room).2).length c19) rfl) rfl rfl rfl ?_
            refine o_unguard 171 rfl rfl ?_
            refine o_pure (p_move (v := .slice none 0 0) rfl) rfl rfl rfl ?_
            refine o_unguard 171 rfl rfl ?_
            refine o_call0 (v := .bool (Ref.sameInts ((Lru.resize c room).2) [])) rfl (sameInts_ok ((Lru.resize c room).2) a18 c19 [] none 0) hf47 (fun w hw => ⟨(rd_ent (i := 6) rfl (fun w h => h.2)) w hw, rd_nil w hw⟩) rfl ?_
            refine o_pure (p_pick_true (u := .bool (Ref.sameInts ((Lru.resize c room).2) [])) rfl rfl) rfl rfl rfl ?_
            exact o_sub (Sub.cons rfl (Sub.skip rfl (Sub.skip rfl (Sub.skip rfl (Sub.skip rfl (Sub.skip rfl (Sub.refl _))))))) hk
          · intro hb133 hk
            refine o_guard_no rfl 171 rfl rfl rfl rfl rfl ?_
            refine o_guard_no rfl 171 rfl rfl rfl rfl rfl ?_
            refine o_guard_no rfl 171 rfl rfl rfl rfl rfl ?_
            refine o_pure (p_pick_false (v := .bool false) rfl rfl) rfl rfl rfl ?_
            exact o_sub (Sub.cons rfl (Sub.skip rfl (Sub.skip rfl (Sub.skip rfl (Sub.skip rfl (Sub.skip rfl (Sub.refl _))))))) hk
          refine o_pure (p_move (v := .bool ((((((((((((Lru.check c) == (Lru.check c)) && ((Lru.trace l) == (Lru.trace l))) && (decide (((Lru.access c key).1) = ((Lru.touch c key).1)))) && (((Lru.access c key).2.1) == ((Lru.touch c key).2.1))) && (((Lru.access c key).2.2) == ((Lru.touch c key).2.2))) && ((Lru.accessErr c key) == (Lru.check c))) && (decide (((Lru.run c l).1) = ((Lru.runGo c 0 l).1)))) && (((Lru.run c l).2) == ((Lru.runGo c 0 l).2))) && ((Lru.runErr c l) == (Lru.trace l))) && (decide (((Lru.resize c room).1) = (⟨0, []⟩ : DCache)))) && (Ref.sameInts ((Lru.resize c room).2) []))) rfl) rfl rfl rfl ?_
          refine o_and (p := 180) 4 ((Lru.sizeErr c room) == 3) ?_ ?_ ?_
          · intro hb134 hk
            simp only [Bool.and_eq_true, beq_iff_eq, decide_eq_true_eq] at hb134
            refine o_unguard 176 rfl rfl ?_
            refine o_pure (p_move (v := .int .i64 (Lru.sizeErr c room)) rfl) rfl rfl rfl ?_
            refine o_unguard 176 rfl rfl ?_
            refine o_pure (p_move (v := .int .i64 3) rfl) rfl rfl rfl ?_
            refine o_unguard 176 rfl rfl ?_
            refine o_pure (p_eq (p := (Lru.sizeErr c room)) (q := 3) rfl rfl) rfl rfl rfl ?_
            refine o_pure (p_pick_true (u := .bool ((Lru.sizeErr c room) == 3)) rfl rfl) rfl rfl rfl ?_
            exact o_sub (Sub.cons rfl (Sub.skip rfl (Sub.skip rfl (Sub.skip rfl (Sub.skip rfl (Sub.skip rfl (Sub.refl _))))))) hk
          · intro hb134 hk
            refine o_guard_no rfl 176 rfl rfl rfl rfl rfl ?_
            refine o_guard_no rfl 176 rfl rfl rfl rfl rfl ?_
            refine o_guard_no rfl 176 rfl rfl rfl rfl rfl ?_
            refine o_pure (p_pick_false (v := .bool false) rfl rfl) rfl rfl rfl ?_
            exact o_sub (Sub.cons rfl (Sub.skip rfl (Sub.skip rfl (Sub.skip rfl (Sub.skip rfl (Sub.skip rfl (Sub.refl _))))))) hk
          refine o_pure (p_assign (v := .bool (((((((((((((Lru.check c) == (Lru.check c)) && ((Lru.trace l) == (Lru.trace l))) && (decide (((Lru.access c key).1) = ((Lru.touch c key).1)))) && (((Lru.access c key).2.1) == ((Lru.touch c key).2.1))) && (((Lru.access c key).2.2) == ((Lru.touch c key).2.2))) && ((Lru.accessErr c key) == (Lru.check c))) && (decide (((Lru.run c l).1) = ((Lru.runGo c 0 l).1)))) && (((Lru.run c l).2) == ((Lru.runGo c 0 l).2))) && ((Lru.runErr c l) == (Lru.trace l))) && (decide (((Lru.resize c room).1) = (⟨0, []⟩ : DCache)))) && (Ref.sameInts ((Lru.resize c room).2) [])) && ((Lru.sizeErr c room) == 3))) rfl) rfl rfl rfl ?_
          refine o_nil ?_
          refine q_then ?_
          refine c_ret ?_
          have hr0 : ((((((((((((((Lru.check c) == (Lru.check c)) && ((Lru.trace l) == (Lru.trace l))) && (decide (((Lru.access c key).1) = ((Lru.touch c key).1)))) && (((Lru.access c key).2.1) == ((Lru.touch c key).2.1))) && (((Lru.access c key).2.2) == ((Lru.touch c key).2.2))) && ((Lru.accessErr c key) == (Lru.check c))) && (decide (((Lru.run c l).1) = ((Lru.runGo c 0 l).1)))) && (((Lru.run c l).2) == ((Lru.runGo c 0 l).2))) && ((Lru.runErr c l) == (Lru.trace l))) && (decide (((Lru.resize c room).1) = (⟨0, []⟩ : DCache)))) && (Ref.sameInts ((Lru.resize c room).2) [])) && ((Lru.sizeErr c room) == 3)) : Bool) = true := by
            rcases Lru.acc_num c key with ⟨a0, a1, a2⟩ | ⟨a0, a3, a1, a2⟩ | ⟨a0, a3, a1, a2⟩ <;> rcases Lru.run_cases c l with ⟨b0, b1, b2⟩ | ⟨b0, b3, b1, b2⟩ | ⟨b0, b3, b1, b2⟩ <;> rcases Lru.size_num c room with ⟨s0, s1, s2⟩ | ⟨s0, s3, s1, s2⟩ | ⟨s0, s3, s1, s2⟩ <;> first | (exfalso; omega) | (rw [a1, a2, b1, b2, s1, s2]; first | (simp [Lru.zero, Ref.sameInts, a0]; done) | (simp [Lru.zero, Ref.sameInts, a0, b3]; done) | (obtain ⟨hz1, hz2⟩ := hI.done (by omega); rw [hz1, hz2]; first | (simp [Lru.zero, Ref.sameInts, a0]; done) | (simp [Lru.zero, Ref.sameInts, a0, b3]; done)))
          refine q_end0 (v := .bool (((((((((((((Lru.check c) == (Lru.check c)) && ((Lru.trace l) == (Lru.trace l))) && (decide (((Lru.access c key).1) = ((Lru.touch c key).1)))) && (((Lru.access c key).2.1) == ((Lru.touch c key).2.1))) && (((Lru.access c key).2.2) == ((Lru.touch c key).2.2))) && ((Lru.accessErr c key) == (Lru.check c))) && (decide (((Lru.run c l).1) = ((Lru.runGo c 0 l).1)))) && (((Lru.run c l).2) == ((Lru.runGo c 0 l).2))) && ((Lru.runErr c l) == (Lru.trace l))) && (decide (((Lru.resize c room).1) = (⟨0, []⟩ : DCache)))) && (Ref.sameInts ((Lru.resize c room).2) [])) && ((Lru.sizeErr c room) == 3))) (rt1 rfl (r_tmp rfl)) (i := 12) rfl ?_
          exact (by have hcc := congrArg (fun (y0 : Bool) => (.bool y0 : Value)) hr0; exact hcc)
        · simp only [Bool.or_eq_false_iff, decide_eq_false_iff_not, Int.not_lt] at hc123
          refine c_seq ?_
          refine c_region ?_
          refine o_pure (p_move (v := .int .i64 room) rfl) rfl rfl rfl ?_
          refine o_buildSlice (m := 0) (T := tInt) (L := []) (vs := []) rfl rfl rfl rfl Try.underlying52 sz3 (by decide) ze3 rfl (by decide) rfl (fun S135 a136 => ?_)
          refine o_pure (p_fieldAddr (B := B1) (j := 0) (j' := 1) rfl fo72_1 rfl) rfl rfl rfl ?_
          refine o_pure (p_load (i := 12) (v := .slice ac_0 c.keys.length cc_0) rfl rfl sh52 rfl) rfl rfl rfl ?_
          refine o_append (i := 0) (L := []) (M := c.keys) (T := tInt) rfl rfl rfl (rd_base (i := 13) rfl hc_0) Try.underlying52 Try.underlying52 (by intro k h; cases h) el3 (by intro z; simp [tInt, one1]) (by decide) (by first | omega | (simp only [List.length_cons, List.length_nil]; omega) | (simp only [List.length_append, List.length_cons, List.length_nil, List.length_take, List.length_drop]; omega)) rfl (fun a138 c139 S140 => ?_)
          refine o_pure (p_build (cells := [.int .i64 room, .slice a138 c.keys.length c139]) fp72 ze72 rfl rfl) rfl rfl rfl ?_
          refine o_storeN (i := 3) (vs := [.int .i64 room, .slice a138 c.keys.length c139]) (cs' := [.int .i64 room, .slice a138 c.keys.length c139]) rfl rfl rfl sz72 rfl rfl rfl rfl ?_
          refine o_nil ?_
          refine q_then ?_
          refine c_block ?_
          refine c_ownNil tInt ?_
          refine c_loop (St := List Int × Option Addr × Nat × (Nat → Prop) × DCache × Option Addr × Nat × (Nat → Prop))
            (fun ⟨less_, aless_, cless_, Sless_, sc, asc_0, csc_0, Ssc_0⟩ => [(2, .slice al l.length cl), (3, .int .i64 room), (4, .pointer (some ⟨B1, 0, none⟩)), (9, .pointer (some ⟨B7, 0, none⟩)), (10, .bool ((Lru.access c key).2.1)), (11, .int .i64 ((Lru.access c key).2.2)), (12, .int .i64 (Lru.accessErr c key)), (13, .pointer (some ⟨B13, 0, none⟩)), (14, .int .i64 ((Lru.run c l).2)), (15, .int .i64 (Lru.runErr c l)), (16, .pointer (some ⟨B22, 0, none⟩)), (17, .slice a18 ((Lru.resize c room).2).length c19), (18, .int .i64 (Lru.sizeErr c room)), (19, .int .i64 (Lru.check c)), (20, .int .i64 (Lru.check c)), (21, .int .i64 (Lru.trace l)), (22, .int .i64 (Lru.check c)), (23, .pointer (some ⟨B23, 0, none⟩)), (24, .pointer (some ⟨B24, 0, none⟩)), (25, .pointer (some ⟨B25, 0, none⟩)), (26, .bool ((Lru.touch c key).2.1)), (27, .int .i64 ((Lru.touch c key).2.2)), (28, .int .i64 ((Lru.runGo c 0 l).2)), (29, .slice aless_ less_.length cless_)])
            (fun ⟨less_, aless_, cless_, Sless_, sc, asc_0, csc_0, Ssc_0⟩ => [own tInt Sless_ aless_ cless_ less_, own tInt Ssc_0 asc_0 csc_0 sc.keys, loose tInt (a120 = ac_0 ∧ c121 = cc_0 ∧ (((Lru.runGo c 0 l).1).keys) = c.keys) S118 a120 c121 (((Lru.runGo c 0 l).1).keys), own tInt S112 a114 c115 (((Lru.touch c key).1).keys), box B25 [.int .i64 sc.room, .slice asc_0 sc.keys.length csc_0] 72, box B24 [.int .i64 (((Lru.runGo c 0 l).1).room), .slice a120 (((Lru.runGo c 0 l).1).keys).length c121] 72, box B23 [.int .i64 (((Lru.touch c key).1).room), .slice a114 (((Lru.touch c key).1).keys).length c115] 72, box B22 [.int .i64 (((Lru.resize c room).1).room), .slice a16 (((Lru.resize c room).1).keys).length c17] 72, ⟨S14, fun w => SlR tInt S14 w a16 c17 (((Lru.resize c room).1).keys) ∧ SlR tInt S14 w a18 c19 ((Lru.resize c room).2)⟩, box B13 [.int .i64 (((Lru.run c l).1).room), .slice a10 (((Lru.run c l).1).keys).length c11] 72, own tInt S8 a10 c11 (((Lru.run c l).1).keys), box B7 [.int .i64 (((Lru.access c key).1).room), .slice a4 (((Lru.access c key).1).keys).length c5] 72, own tInt S2 a4 c5 (((Lru.access c key).1).keys), box B1 [.int .i64 c.room, .slice ac_0 c.keys.length cc_0] 72, base w0])
            (fun ⟨less_, aless_, cless_, Sless_, sc, asc_0, csc_0, Ssc_0⟩ => Lru.ZInv c room sc less_)
            (fun ⟨less_, aless_, cless_, Sless_, sc, asc_0, csc_0, Ssc_0⟩ => sc.keys.length)
            ([], none, 0, (fun _ => False), (⟨room, c.keys⟩ : DCache), a138, c139, S140) ?_ (Sub.cons rfl (Sub.cons rfl (Sub.cons rfl (Sub.cons rfl (Sub.cons rfl (Sub.cons rfl (Sub.cons rfl (Sub.cons rfl (Sub.cons rfl (Sub.cons rfl (Sub.cons rfl (Sub.cons rfl (Sub.cons rfl (Sub.cons rfl (Sub.cons rfl (Sub.cons rfl (Sub.cons rfl (Sub.cons rfl (Sub.cons rfl (Sub.cons rfl (Sub.cons rfl (Sub.cons rfl (Sub.cons rfl (Sub.cons rfl (Sub.nil _))))))))))))))))))))))))) (fun _ hw => hw) ?_
          · exact Lru.ZInv.start (by omega)
          rintro ⟨less_, aless_, cless_, Sless_, sc, asc_0, csc_0, Ssc_0⟩ hI K hK142
          have hzl := hI.len
          have hzb := hI.rb
          show SC _ _ Try.prog 181 w0 _ _ [(2, .slice al l.length cl), (3, .int .i64 room), (4, .pointer (some ⟨B1, 0, none⟩)), (9, .pointer (some ⟨B7, 0, none⟩)), (10, .bool ((Lru.access c key).2.1)), (11, .int .i64 ((Lru.access c key).2.2)), (12, .int .i64 (Lru.accessErr c key)), (13, .pointer (some ⟨B13, 0, none⟩)), (14, .int .i64 ((Lru.run c l).2)), (15, .int .i64 (Lru.runErr c l)), (16, .pointer (some ⟨B22, 0, none⟩)), (17, .slice a18 ((Lru.resize c room).2).length c19), (18, .int .i64 (Lru.sizeErr c room)), (19, .int .i64 (Lru.check c)), (20, .int .i64 (Lru.check c)), (21, .int .i64 (Lru.trace l)), (22, .int .i64 (Lru.check c)), (23, .pointer (some ⟨B23, 0, none⟩)), (24, .pointer (some ⟨B24, 0, none⟩)), (25, .pointer (some ⟨B25, 0, none⟩)), (26, .bool ((Lru.touch c key).2.1)), (27, .int .i64 ((Lru.touch c key).2.2)), (28, .int .i64 ((Lru.runGo c 0 l).2)), (29, .slice aless_ less_.length cless_)] [own tInt Sless_ aless_ cless_ less_, own tInt Ssc_0 asc_0 csc_0 sc.keys, loose tInt (a120 = ac_0 ∧ c121 = cc_0 ∧ (((Lru.runGo c 0 l).1).keys) = c.keys) S118 a120 c121 (((Lru.runGo c 0 l).1).keys), own tInt S112 a114 c115 (((Lru.touch c key).1).keys), box B25 [.int .i64 sc.room, .slice asc_0 sc.keys.length csc_0] 72, box B24 [.int .i64 (((Lru.runGo c 0 l).1).room), .slice a120 (((Lru.runGo c 0 l).1).keys).length c121] 72, box B23 [.int .i64 (((Lru.touch c key).1).room), .slice a114 (((Lru.touch c key).1).keys).length c115] 72, box B22 [.int .i64 (((Lru.resize c room).1).room), .slice a16 (((Lru.resize c room).1).keys).length c17] 72, ⟨S14, fun w => SlR tInt S14 w a16 c17 (((Lru.resize c room).1).keys) ∧ SlR tInt S14 w a18 c19 ((Lru.resize c room).2)⟩, box B13 [.int .i64 (((Lru.run c l).1).room), .slice a10 (((Lru.run c l).1).keys).length c11] 72, own tInt S8 a10 c11 (((Lru.run c l).1).keys), box B7 [.int .i64 (((Lru.access c key).1).room), .slice a4 (((Lru.access c key).1).keys).length c5] 72, own tInt S2 a4 c5 (((Lru.access c key).1).keys), box B1 [.int .i64 c.room, .slice ac_0 c.keys.length cc_0] 72, base w0]
          refine c_seq ?_
          refine c_seq ?_
          refine c_region ?_
          refine o_pure (p_fieldAddr (B := B25) (j := 0) (j' := 1) rfl fo72_1 rfl) rfl rfl rfl ?_
          refine o_pure (p_load (i := 4) (v := .slice asc_0 sc.keys.length csc_0) rfl rfl sh52 rfl) rfl rfl rfl ?_
          refine o_pure (p_len_slice (len := sc.keys.length) rfl rfl Try.underlying52) rfl rfl rfl ?_
          refine o_pure (p_move (v := .int .i64 room) rfl) rfl rfl rfl ?_
          refine o_pure (p_gt (p := (sc.keys.length : Int)) (q := room) rfl rfl) rfl rfl rfl ?_
          refine o_nil ?_
          refine q_then ?_
          refine c_cond (b := decide (room < (sc.keys.length : Int))) rfl (fun hc143 => ?_) (fun hc143 => ?_)
          · simp only [decide_eq_true_eq] at hc143
            refine c_skip ?_
            refine q_then ?_
            refine c_block ?_
            refine c_seq ?_
            refine c_region ?_
            refine o_pure (p_fieldAddr (B := B25) (j := 0) (j' := 1) rfl fo72_1 rfl) rfl rfl rfl ?_
            refine o_pure (p_load (i := 4) (v := .slice asc_0 sc.keys.length csc_0) rfl rfl sh52 rfl) rfl rfl rfl ?_
            refine o_pure (p_len_slice (len := sc.keys.length) rfl rfl Try.underlying52) rfl rfl rfl ?_
            refine o_pure (p_subb (p := (sc.keys.length : Int)) (q := 1) rfl rfl (by omega)) rfl rfl rfl ?_
            refine o_pure (p_assign (v := .int .i64 ((sc.keys.length : Int) - 1)) rfl) rfl rfl rfl ?_
            refine o_nil ?_
            refine q_then ?_
            refine c_seq ?_
            refine c_region ?_
            refine o_pure (p_move (v := .slice aless_ less_.length cless_) rfl) rfl rfl rfl ?_
            refine o_pure (p_fieldAddr (B := B25) (j := 0) (j' := 1) rfl fo72_1 rfl) rfl rfl rfl ?_
            refine o_pure (p_load (i := 4) (v := .slice asc_0 sc.keys.length csc_0) rfl rfl sh52 rfl) rfl rfl rfl ?_
            refine o_pure (p_move (v := .int .i64 ((sc.keys.length : Int) - 1)) rfl) rfl rfl rfl ?_
            refine o_pure (p_indexAddr (L := sc.keys) (T := tInt) (i := ((sc.keys.length : Int) - 1)) rfl rfl (rd_own (i := 1) rfl) Try.underlying52 sz3 (by omega) (by omega)) rfl rfl rfl ?_
            refine o_pure (p_loadE1 (i := ((sc.keys.length : Int) - 1).toNat) (T := tInt) (L := sc.keys) (v := .int .i64 (sc.keys[((sc.keys.length : Int) - 1).toNat])) rfl (rd_own (i := 1) rfl) (by first | assumption | omega) sh3 rfl) rfl rfl rfl ?_
            refine o_buildSlice (m := 1) (T := tInt) (L := [sc.keys[((sc.keys.length : Int) - 1).toNat]]) (vs := [.int .i64 (sc.keys[((sc.keys.length : Int) - 1).toNat])]) rfl rfl rfl rfl Try.underlying52 sz3 (by decide) ze3 rfl (by decide) rfl (fun S144 a145 => ?_)
            refine o_append (i := 1) (L := less_) (M := [sc.keys[((sc.keys.length : Int) - 1).toNat]]) (T := tInt) rfl rfl rfl (rd_own (i := 0) rfl) Try.underlying52 Try.underlying52 (by intro k h; cases h) el3 (by intro z; simp [tInt, one1]) (by decide) (by first | omega | (simp only [List.length_cons, List.length_nil]; omega) | (simp only [List.length_append, List.length_cons, List.length_nil, List.length_take, List.length_drop]; omega)) rfl (fun a147 c148 S149 => ?_)
            refine o_pure (p_assign (v := .slice a147 (less_ ++ [sc.keys[((sc.keys.length : Int) - 1).toNat]]).length c148) rfl) rfl rfl rfl ?_
            refine o_nil ?_
            refine q_then ?_
            refine c_region ?_
            refine o_pure (p_fieldAddr (B := B25) (j := 0) (j' := 1) rfl fo72_1 rfl) rfl rfl rfl ?_
            refine o_pure (p_load (i := 5) (v := .slice asc_0 sc.keys.length csc_0) rfl rfl sh52 rfl) rfl rfl rfl ?_
            refine o_pure (p_move (v := .int .i64 ((sc.keys.length : Int) - 1)) rfl) rfl rfl rfl ?_
            refine o_pure (p_sliceH (L := sc.keys) (T := tInt) (h := ((sc.keys.length : Int) - 1)) rfl rfl Try.underlying52 sz3 (by omega) (by omega) (rd_own (i := 2) rfl)) rfl rfl rfl ?_
            refine o_pure (p_fieldAddr (B := B25) (j := 0) (j' := 1) rfl fo72_1 rfl) rfl rfl rfl ?_
            refine o_shrinkC (i := 2) (hi := ((sc.keys.length : Int) - 1).toNat) (T := tInt) rfl (by omega) ?_
            refine o_store (i := 5) (v := .slice asc_0 (sc.keys.take (((sc.keys.length : Int) - 1).toNat)).length csc_0) (cs' := [.int .i64 sc.room, .slice asc_0 (sc.keys.take (((sc.keys.length : Int) - 1).toNat)).length csc_0]) rfl rfl rfl sz52 rfl rfl rfl ?_
            refine o_nil ?_
            refine q_block_normal ?_
            refine q_round hK142 ((less_ ++ [sc.keys[((sc.keys.length : Int) - 1).toNat]]), a147, c148, S149, (⟨sc.room, (sc.keys.take (((sc.keys.length : Int) - 1).toNat))⟩ : DCache), asc_0, csc_0, Ssc_0) ?_ ?_ ?_ ?_
            · clear hK142
              exact hI.next (by omega) (by omega)
            · (try dsimp only); simp only [List.length_take]; omega
            · exact Sub.cons rfl (Sub.cons rfl (Sub.cons rfl (Sub.cons rfl (Sub.cons rfl (Sub.cons rfl (Sub.cons rfl (Sub.cons rfl (Sub.cons rfl (Sub.cons rfl (Sub.cons rfl (Sub.cons rfl (Sub.cons rfl (Sub.cons rfl (Sub.cons rfl (Sub.cons rfl (Sub.cons rfl (Sub.cons rfl (Sub.cons rfl (Sub.cons rfl (Sub.cons rfl (Sub.cons rfl (Sub.cons rfl (Sub.cons rfl (Sub.nil _))))))))))))))))))))))))
            · exact fun _ hw => HeapIs.pick hw [1, 2, 3, 4, 5, 6, 7, 8, 9, 10, 11, 12, 13, 14, 15] (by decide) rfl
          · simp only [decide_eq_false_iff_not, Int.not_lt] at hc143
            refine c_exit ?_
            refine q_then_exit (q_then_exit (q_block_exit (q_then ?_)))
            refine c_seq ?_
            refine c_region ?_
            refine o_call0 (v := .bool true) rfl (lruBegun_ok ) hf57 (fun _ _ => trivial) rfl ?_
            refine o_pure (p_move (v := .bool true) rfl) rfl rfl rfl ?_
            refine o_unguard 118 rfl rfl ?_
            refine o_pure (p_load_agg (i := 13) (vs := [.int .i64 c.room, .slice ac_0 c.keys.length cc_0]) rfl rfl sh72 rfl rfl) rfl rfl rfl ?_
            refine o_unguard 118 rfl rfl ?_
            refine o_call0 (v := .int .i64 (Lru.check c)) rfl (lcheck_ok c ac_0 cc_0) hf58 (fun w hw => (rd_base (i := 14) rfl hc_0) w hw) rfl ?_
            refine o_unguard 118 rfl rfl ?_
            refine o_pure (p_move (v := .int .i64 (Lru.check c)) rfl) rfl rfl rfl ?_
            refine o_unguard 118 rfl rfl ?_
            refine o_pure (p_eq (p := (Lru.check c)) (q := (Lru.check c)) rfl rfl) rfl rfl rfl ?_
            refine o_pure (p_pick_true (u := .bool ((Lru.check c) == (Lru.check c))) rfl rfl) rfl rfl rfl ?_
            refine o_pure (p_move (v := .bool ((Lru.check c) == (Lru.check c))) rfl) rfl rfl rfl ?_
            refine o_and (p := 130) 6 ((Lru.trace l) == (Lru.trace l)) ?_ ?_ ?_
            · intro hb150 hk
              simp only [beq_iff_eq] at hb150
              refine o_unguard 124 rfl rfl ?_
              refine o_pure (p_move (v := .slice al l.length cl) rfl) rfl rfl rfl ?_
              refine o_unguard 124 rfl rfl ?_
              refine o_call0 (v := .int .i64 (Lru.trace l)) rfl (checkTrace_ok l al cl) hf59 (fun w hw => (rd_base (i := 14) rfl hl) w hw) rfl ?_
              refine o_unguard 124 rfl rfl ?_
              refine o_pure (p_move (v := .slice al l.length cl) rfl) rfl rfl rfl ?_
              refine o_unguard 124 rfl rfl ?_
              refine o_call0 (v := .int .i64 (Lru.trace l)) rfl (traceCheck_ok l al cl) hf44 (fun w hw => (rd_base (i := 14) rfl hl) w hw) rfl ?_
              refine o_unguard 124 rfl rfl ?_
              refine o_pure (p_eq (p := (Lru.trace l)) (q := (Lru.trace l)) rfl rfl) rfl rfl rfl ?_
              refine o_pure (p_pick_true (u := .bool ((Lru.trace l) == (Lru.trace l))) rfl rfl) rfl rfl rfl ?_
              exact o_sub (Sub.cons rfl (Sub.skip rfl (Sub.skip rfl (Sub.skip rfl (Sub.skip rfl (Sub.skip rfl (Sub.skip rfl (Sub.skip rfl (Sub.refl _))))))))) hk
            · intro hb150 hk
              refine o_guard_no rfl 124 rfl rfl rfl rfl rfl ?_
              refine o_guard_no rfl 124 rfl rfl rfl rfl rfl ?_
              refine o_guard_no rfl 124 rfl rfl rfl rfl rfl ?_
              refine o_guard_no rfl 124 rfl rfl rfl rfl rfl ?_
              refine o_guard_no rfl 124 rfl rfl rfl rfl rfl ?_
              refine o_pure (p_pick_false (v := .bool false) rfl rfl) rfl rfl rfl ?_
              exact o_sub (Sub.cons rfl (Sub.skip rfl (Sub.skip rfl (Sub.skip rfl (Sub.skip rfl (Sub.skip rfl (Sub.skip rfl (Sub.skip rfl (Sub.refl _))))))))) hk
            refine o_pure (p_move (v := .bool (((Lru.check c) == (Lru.check c)) && ((Lru.trace l) == (Lru.trace l)))) rfl) rfl rfl rfl ?_
            refine o_and (p := 135) 4 (decide (((Lru.access c key).1) = ((Lru.touch c key).1))) ?_ ?_ ?_
            · intro hb151 hk
              simp only [Bool.and_eq_true, beq_iff_eq] at hb151
              refine o_unguard 131 rfl rfl ?_
              refine o_pure (p_load_agg (i := 11) (vs := [.int .i64 (((Lru.access c key).1).room), .slice a4 (((Lru.access c key).1).keys).length c5]) rfl rfl sh72 rfl rfl) rfl rfl rfl ?_
              refine o_unguard 131 rfl rfl ?_
              refine o_pure (p_load_agg (i := 6) (vs := [.int .i64 (((Lru.touch c key).1).room), .slice a114 (((Lru.touch c key).1).keys).length c115]) rfl rfl sh72 rfl rfl) rfl rfl rfl ?_
              refine o_unguard 131 rfl rfl ?_
              refine o_call0 (v := .bool (decide (((Lru.access c key).1) = ((Lru.touch c key).1)))) rfl (sameCache_ok ((Lru.access c key).1) a4 c5 ((Lru.touch c key).1) a114 c115) hf60 (fun w hw => ⟨(rd_own (i := 12) rfl) w hw, (rd_own (i := 3) rfl) w hw⟩) rfl ?_
              refine o_pure (p_pick_true (u := .bool (decide (((Lru.access c key).1) = ((Lru.touch c key).1)))) rfl rfl) rfl rfl rfl ?_
              exact o_sub (Sub.cons rfl (Sub.skip rfl (Sub.skip rfl (Sub.skip rfl (Sub.skip rfl (Sub.skip rfl (Sub.refl _))))))) hk
            · intro hb151 hk
              refine o_guard_no rfl 131 rfl rfl rfl rfl rfl ?_
              refine o_guard_no rfl 131 rfl rfl rfl rfl rfl ?_
              refine o_guard_no rfl 131 rfl rfl rfl rfl rfl ?_
              refine o_pure (p_pick_false (v := .bool false) rfl rfl) rfl rfl rfl ?_
              exact o_sub (Sub.cons rfl (Sub.skip rfl (Sub.skip rfl (Sub.skip rfl (Sub.skip rfl (Sub.skip rfl (Sub.refl _))))))) hk
            refine o_pure (p_move (v := .bool ((((Lru.check c) == (Lru.check c)) && ((Lru.trace l) == (Lru.trace l))) && (decide (((Lru.access c key).1) = ((Lru.touch c key).1))))) rfl) rfl rfl rfl ?_
            refine o_and (p := 140) 4 (((Lru.access c key).2.1) == ((Lru.touch c key).2.1)) ?_ ?_ ?_
            · intro hb152 hk
              simp only [Bool.and_eq_true, beq_iff_eq, decide_eq_true_eq] at hb152
              refine o_unguard 136 rfl rfl ?_
              refine o_pure (p_move (v := .bool ((Lru.access c key).2.1)) rfl) rfl rfl rfl ?_
              refine o_unguard 136 rfl rfl ?_
              refine o_pure (p_move (v := .bool ((Lru.touch c key).2.1)) rfl) rfl rfl rfl ?_
              refine o_unguard 136 rfl rfl ?_
              refine o_pure (p_eqBool (b := ((Lru.access c key).2.1)) (c := ((Lru.touch c key).2.1)) rfl rfl Try.underlying4) rfl rfl rfl ?_
              refine o_pure (p_pick_true (u := .bool (((Lru.access c key).2.1) == ((Lru.touch c key).2.1))) rfl rfl) rfl rfl rfl ?_
              exact o_sub (Sub.cons rfl (Sub.skip rfl (Sub.skip rfl (Sub.skip rfl (Sub.skip rfl (Sub.skip rfl (Sub.refl _))))))) hk
            · intro hb152 hk
              refine o_guard_no rfl 136 rfl rfl rfl rfl rfl ?_
              refine o_guard_no rfl 136 rfl rfl rfl rfl rfl ?_
              refine o_guard_no rfl 136 rfl rfl rfl rfl rfl ?_
              refine o_pure (p_pick_false (v := .bool false) rfl rfl) rfl rfl rfl ?_
              exact o_sub (Sub.cons rfl (Sub.skip rfl (Sub.skip rfl (Sub.skip rfl (Sub.skip rfl (Sub.skip rfl (Sub.refl _))))))) hk
            refine o_pure (p_move (v := .bool (((((Lru.check c) == (Lru.check c)) && ((Lru.trace l) == (Lru.trace l))) && (decide (((Lru.access c key).1) = ((Lru.touch c key).1)))) && (((Lru.access c key).2.1) == ((Lru.touch c key).2.1)))) rfl) rfl rfl rfl ?_
            refine o_and (p := 145) 4 (((Lru.access c key).2.2) == ((Lru.touch c key).2.2)) ?_ ?_ ?_
            · intro hb153 hk
              simp only [Bool.and_eq_true, beq_iff_eq, decide_eq_true_eq] at hb153
              refine o_unguard 141 rfl rfl ?_
              refine o_pure (p_move (v := .int .i64 ((Lru.access c key).2.2)) rfl) rfl rfl rfl ?_
              refine o_unguard 141 rfl rfl ?_
              refine o_pure (p_move (v := .int .i64 ((Lru.touch c key).2.2)) rfl) rfl rfl rfl ?_
              refine o_unguard 141 rfl rfl ?_
              refine o_pure (p_eq (p := ((Lru.access c key).2.2)) (q := ((Lru.touch c key).2.2)) rfl rfl) rfl rfl rfl ?_
              refine o_pure (p_pick_true (u := .bool (((Lru.access c key).2.2) == ((Lru.touch c key).2.2))) rfl rfl) rfl rfl rfl ?_
              exact o_sub (Sub.cons rfl (Sub.skip rfl (Sub.skip rfl (Sub.skip rfl (Sub.skip rfl (Sub.skip rfl (Sub.refl _))))))) hk
            · intro hb153 hk
              refine o_guard_no rfl 141 rfl rfl rfl rfl rfl ?_
              refine o_guard_no rfl 141 rfl rfl rfl rfl rfl ?_
              refine o_guard_no rfl 141 rfl rfl rfl rfl rfl ?_
              refine o_pure (p_pick_false (v := .bool false) rfl rfl) rfl rfl rfl ?_
              exact o_sub (Sub.cons rfl (Sub.skip rfl (Sub.skip rfl (Sub.skip rfl (Sub.skip rfl (Sub.skip rfl (Sub.refl _))))))) hk
            refine o_pure (p_move (v := .bool ((((((Lru.check c) == (Lru.check c)) && ((Lru.trace l) == (Lru.trace l))) && (decide (((Lru.access c key).1) = ((Lru.touch c key).1)))) && (((Lru.access c key).2.1) == ((Lru.touch c key).2.1))) && (((Lru.access c key).2.2) == ((Lru.touch c key).2.2)))) rfl) rfl rfl rfl ?_
            refine o_and (p := 150) 4 ((Lru.accessErr c key) == (Lru.check c)) ?_ ?_ ?_
            · intro hb154 hk
              simp only [Bool.and_eq_true, beq_iff_eq, decide_eq_true_eq] at hb154
              refine o_unguard 146 rfl rfl ?_
              refine o_pure (p_move (v := .int .i64 (Lru.accessErr c key)) rfl) rfl rfl rfl ?_
              refine o_unguard 146 rfl rfl ?_
              refine o_pure (p_move (v := .int .i64 (Lru.check c)) rfl) rfl rfl rfl ?_
              refine o_unguard 146 rfl rfl ?_
              refine o_pure (p_eq (p := (Lru.accessErr c key)) (q := (Lru.check c)) rfl rfl) rfl rfl rfl ?_
              refine o_pure (p_pick_true (u := .bool ((Lru.accessErr c key) == (Lru.check c))) rfl rfl) rfl rfl rfl ?_
              exact o_sub (Sub.cons rfl (Sub.skip rfl (Sub.skip rfl (Sub.skip rfl (Sub.skip rfl (Sub.skip rfl (Sub.refl _))))))) hk
            · intro hb154 hk
              refine o_guard_no rfl 146 rfl rfl rfl rfl rfl ?_
              refine o_guard_no rfl 146 rfl rfl rfl rfl rfl ?_
              refine o_guard_no rfl 146 rfl rfl rfl rfl rfl ?_
              refine o_pure (p_pick_false (v := .bool false) rfl rfl) rfl rfl rfl ?_
              exact o_sub (Sub.cons rfl (Sub.skip rfl (Sub.skip rfl (Sub.skip rfl (Sub.skip rfl (Sub.skip rfl (Sub.refl _))))))) hk
            refine o_pure (p_move (v := .bool (((((((Lru.check c) == (Lru.check c)) && ((Lru.trace l) == (Lru.trace l))) && (decide (((Lru.access c key).1) = ((Lru.touch c key).1)))) && (((Lru.access c key).2.1) == ((Lru.touch c key).2.1))) && (((Lru.access c key).2.2) == ((Lru.touch c key).2.2))) && ((Lru.accessErr c key) == (Lru.check c)))) rfl) rfl rfl rfl ?_
            refine o_and (p := 155) 4 (decide (((Lru.run c l).1) = ((Lru.runGo c 0 l).1))) ?_ ?_ ?_
            · intro hb155 hk
              simp only [Bool.and_eq_true, beq_iff_eq, decide_eq_true_eq] at hb155
              refine o_unguard 151 rfl rfl ?_
              refine o_pure (p_load_agg (i := 9) (vs := [.int .i64 (((Lru.run c l).1).room), .slice a10 (((Lru.run c l).1).keys).length c11]) rfl rfl sh72 rfl rfl) rfl rfl rfl ?_
              refine o_unguard 151 rfl rfl ?_
              refine o_pure (p_load_agg (i := 5) (vs := [.int .i64 (((Lru.runGo c 0 l).1).room), .slice a120 (((Lru.runGo c 0 l).1).keys).length c121]) rfl rfl sh72 rfl rfl) rfl rfl rfl ?_
              refine o_unguard 151 rfl rfl ?_
              refine o_call0 (v := .bool (decide (((Lru.run c l).1) = ((Lru.runGo c 0 l).1)))) rfl (sameCache_ok ((Lru.run c l).1) a10 c11 ((Lru.runGo c 0 l).1) a120 c121) hf60 (fun w hw => ⟨(rd_own (i := 10) rfl) w hw, (rd_loose (i := 2) rfl (fun hφ => by obtain ⟨h1, h2, h3⟩ := hφ; intro w hw; have g1 : a120 = ac_0 := h1; have g2 : c121 = cc_0 := h2; have g3 : ((Lru.runGo c 0 l).1).keys = c.keys := h3; rw [g1, g2, g3]; exact (rd_base (i := 14) rfl hc_0) w hw)) w hw⟩) rfl ?_
              refine o_pure (p_pick_true (u := .bool (decide (((Lru.run c l).1) = ((Lru.runGo c 0 l).1)))) rfl rfl) rfl rfl rfl ?_
              exact o_sub (Sub.cons rfl (Sub.skip rfl (Sub.skip rfl (Sub.skip rfl (Sub.skip rfl (Sub.skip rfl (Sub.refl _))))))) hk
            · intro hb155 hk
              refine o_guard_no rfl 151 rfl rfl rfl rfl rfl ?_
              refine o_guard_no rfl 151 rfl rfl rfl rfl rfl ?_
              refine o_guard_no rfl 151 rfl rfl rfl rfl rfl ?_
              refine o_pure (p_pick_false (v := .bool false) rfl rfl) rfl rfl rfl ?_
              exact o_sub (Sub.cons rfl (Sub.skip rfl (Sub.skip rfl (Sub.skip rfl (Sub.skip rfl (Sub.skip rfl (Sub.refl _))))))) hk
            refine o_pure (p_move (v := .bool ((((((((Lru.check c) == (Lru.check c)) && ((Lru.trace l) == (Lru.trace l))) && (decide (((Lru.access c key).1) = ((Lru.touch c key).1)))) && (((Lru.access c key).2.1) == ((Lru.touch c key).2.1))) && (((Lru.access c key).2.2) == ((Lru.touch c key).2.2))) && ((Lru.accessErr c key) == (Lru.check c))) && (decide (((Lru.run c l).1) = ((Lru.runGo c 0 l).1))))) rfl) rfl rfl rfl ?_
            refine o_and (p := 160) 4 (((Lru.run c l).2) == ((Lru.runGo c 0 l).2)) ?_ ?_ ?_
            · intro hb156 hk
              simp only [Bool.and_eq_true, beq_iff_eq, decide_eq_true_eq] at hb156
              refine o_unguard 156 rfl rfl ?_
              refine o_pure (p_move (v := .int .i64 ((Lru.run c l).2)) rfl) rfl rfl rfl ?_
              refine o_unguard 156 rfl rfl ?_
              refine o_pure (p_move (v := .int .i64 ((Lru.runGo c 0 l).2)) rfl) rfl rfl rfl ?_
              refine o_unguard 156 rfl rfl ?_
              refine o_pure (p_eq (p := ((Lru.run c l).2)) (q := ((Lru.runGo c 0 l).2)) rfl rfl) rfl rfl rfl ?_
              refine o_pure (p_pick_true (u := .bool (((Lru.run c l).2) == ((Lru.runGo c 0 l).2))) rfl rfl) rfl rfl rfl ?_
              exact o_sub (Sub.cons rfl (Sub.skip rfl (Sub.skip rfl (Sub.skip rfl (Sub.skip rfl (Sub.skip rfl (Sub.refl _))))))) hk
            · intro hb156 hk
              refine o_guard_no rfl 156 rfl rfl rfl rfl rfl ?_
              refine o_guard_no rfl 156 rfl rfl rfl rfl rfl ?_
              refine o_guard_no rfl 156 rfl rfl rfl rfl rfl ?_
              refine o_pure (p_pick_false (v := .bool false) rfl rfl) rfl rfl rfl ?_
              exact o_sub (Sub.cons rfl (Sub.skip rfl (Sub.skip rfl (Sub.skip rfl (Sub.skip rfl (Sub.skip rfl (Sub.refl _))))))) hk
            refine o_pure (p_move (v := .bool (((((((((Lru.check c) == (Lru.check c)) && ((Lru.trace l) == (Lru.trace l))) && (decide (((Lru.access c key).1) = ((Lru.touch c key).1)))) && (((Lru.access c key).2.1) == ((Lru.touch c key).2.1))) && (((Lru.access c key).2.2) == ((Lru.touch c key).2.2))) && ((Lru.accessErr c key) == (Lru.check c))) && (decide (((Lru.run c l).1) = ((Lru.runGo c 0 l).1)))) && (((Lru.run c l).2) == ((Lru.runGo c 0 l).2)))) rfl) rfl rfl rfl ?_
            refine o_and (p := 165) 4 ((Lru.runErr c l) == (Lru.trace l)) ?_ ?_ ?_
            · intro hb157 hk
              simp only [Bool.and_eq_true, beq_iff_eq, decide_eq_true_eq] at hb157
              refine o_unguard 161 rfl rfl ?_
              refine o_pure (p_move (v := .int .i64 (Lru.runErr c l)) rfl) rfl rfl rfl ?_
              refine o_unguard 161 rfl rfl ?_
              refine o_pure (p_move (v := .int .i64 (Lru.trace l)) rfl) rfl rfl rfl ?_
              refine o_unguard 161 rfl rfl ?_
              refine o_pure (p_eq (p := (Lru.runErr c l)) (q := (Lru.trace l)) rfl rfl) rfl rfl rfl ?_
              refine o_pure (p_pick_true (u := .bool ((Lru.runErr c l) == (Lru.trace l))) rfl rfl) rfl rfl rfl ?_
              exact o_sub (Sub.cons rfl (Sub.skip rfl (Sub.skip rfl (Sub.skip rfl (Sub.skip rfl (Sub.skip rfl (Sub.refl _))))))) hk
            · intro hb157 hk
              refine o_guard_no rfl 161 rfl rfl rfl rfl rfl ?_
              refine o_guard_no rfl 161 rfl rfl rfl rfl rfl ?_
              refine o_guard_no rfl 161 rfl rfl rfl rfl rfl ?_
              refine o_pure (p_pick_false (v := .bool false) rfl rfl) rfl rfl rfl ?_
              exact o_sub (Sub.cons rfl (Sub.skip rfl (Sub.skip rfl (Sub.skip rfl (Sub.skip rfl (Sub.skip rfl (Sub.refl _))))))) hk
            refine o_pure (p_move (v := .bool ((((((((((Lru.check c) == (Lru.check c)) && ((Lru.trace l) == (Lru.trace l))) && (decide (((Lru.access c key).1) = ((Lru.touch c key).1)))) && (((Lru.access c key).2.1) == ((Lru.touch c key).2.1))) && (((Lru.access c key).2.2) == ((Lru.touch c key).2.2))) && ((Lru.accessErr c key) == (Lru.check c))) && (decide (((Lru.run c l).1) = ((Lru.runGo c 0 l).1)))) && (((Lru.run c l).2) == ((Lru.runGo c 0 l).2))) && ((Lru.runErr c l) == (Lru.trace l)))) rfl) rfl rfl rfl ?_
            refine o_and (p := 170) 4 (decide (((Lru.resize c room).1) = sc)) ?_ ?_ ?_
            · intro hb158 hk
              simp only [Bool.and_eq_true, beq_iff_eq, decide_eq_true_eq] at hb158
              refine o_unguard 166 rfl rfl ?_
              refine o_pure (p_load_agg (i := 7) (vs := [.int .i64 (((Lru.resize c room).1).room), .slice a16 (((Lru.resize c room).1).keys).length c17]) rfl rfl sh72 rfl rfl) rfl rfl rfl ?_
              refine o_unguard 166 rfl rfl ?_
              refine o_pure (p_load_agg (i := 4) (vs := [.int .i64 sc.room, .slice asc_0 sc.keys.length csc_0]) rfl rfl sh72 rfl rfl) rfl rfl rfl ?_
              refine o_unguard 166 rfl rfl ?_
              refine o_call0 (v := .bool (decide (((Lru.resize c room).1) = sc))) rfl (sameCache_ok ((Lru.resize c room).1) a16 c17 sc asc_0 csc_0) hf60 (fun w hw => ⟨(rd_ent (i := 8) rfl (fun w h => h.1)) w hw, (rd_own (i := 1) rfl) w hw⟩) rfl ?_
              refine o_pure (p_pick_true (u := .bool (decide (((Lru.resize c room).1) = sc))) rfl rfl) rfl rfl rfl ?_
              exact o_sub (Sub.cons rfl (Sub.skip rfl (Sub.skip rfl (Sub.skip rfl (Sub.skip rfl (Sub.skip rfl (Sub.refl _))))))) hk
            · intro hb158 hk
              refine o_guard_no rfl 166 rfl rfl rfl rfl rfl ?_
              refine o_guard_no rfl 166 rfl rfl rfl rfl rfl ?_
              refine o_guard_no rfl 166 rfl rfl rfl rfl rfl ?_
              refine o_pure (p_pick_false (v := .bool false) rfl rfl) rfl rfl rfl ?_
              exact o_sub (Sub.cons rfl (Sub.skip rfl (Sub.skip rfl (Sub.skip rfl (Sub.skip rfl (Sub.skip rfl (Sub.refl _))))))) hk
            refine o_pure (p_move (v := .bool (((((((((((Lru.check c) == (Lru.check c)) && ((Lru.trace l) == (Lru.trace l))) && (decide (((Lru.access c key).1) = ((Lru.touch c key).1)))) && (((Lru.access c key).2.1) == ((Lru.touch c key).2.1))) && (((Lru.access c key).2.2) == ((Lru.touch c key).2.2))) && ((Lru.accessErr c key) == (Lru.check c))) && (decide (((Lru.run c l).1) = ((Lru.runGo c 0 l).1)))) && (((Lru.run c l).2) == ((Lru.runGo c 0 l).2))) && ((Lru.runErr c l) == (Lru.trace l))) && (decide (((Lru.resize c room).1) = sc)))) rfl) rfl rfl rfl ?_
            refine o_and (p := 175) 4 (Ref.sameInts ((Lru.resize c room).2) less_) ?_ ?_ ?_
            · intro hb159 hk
              simp only [Bool.and_eq_true, beq_iff_eq, decide_eq_true_eq] at hb159
              refine o_unguard 171 rfl rfl ?_
              refine o_pure (p_move (v := .slice a18 ((Lru.resize c room).2).length c19) rfl) rfl rfl rfl ?_
              refine o_unguard 171 rfl rfl ?_
              refine o_pure (p_move (v := .slice aless_ less_.length cless_) rfl) rfl rfl rfl ?_
              refine o_unguard 171 rfl rfl ?_
              refine o_call0 (v := .bool (Ref.sameInts ((Lru.resize c room).2) less_)) rfl (sameInts_ok ((Lru.resize c room).2) a18 c19 less_ aless_ cless_) hf47 (fun w hw => ⟨(rd_ent (i := 8) rfl (fun w h => h.2)) w hw, (rd_own (i := 0) rfl) w hw⟩) rfl ?_
              refine o_pure (p_pick_true (u := .bool (Ref.sameInts ((Lru.resize c room).2) less_)) rfl rfl) rfl rfl rfl ?_
              exact o_sub (Sub.cons rfl (Sub.skip rfl (Sub.skip rfl (Sub.skip rfl (Sub.skip rfl (Sub.skip rfl (Sub.refl _))))))) hk
            · intro hb159 hk
              refine o_guard_no rfl 171 rfl rfl rfl rfl rfl ?_
              refine o_guard_no rfl 171 rfl rfl rfl rfl rfl ?_
              refine o_guard_no rfl 171 rfl rfl rfl rfl rfl ?_
              refine o_pure (p_pick_false (v := .bool false) rfl rfl) rfl rfl rfl ?_
              exact o_sub (Sub.cons rfl (Sub.skip rfl (Sub.skip rfl (Sub.skip rfl (Sub.skip rfl (Sub.skip rfl (Sub.refl _))))))) hk
            refine o_pure (p_move (v := .bool ((((((((((((Lru.check c) == (Lru.check c)) && ((Lru.trace l) == (Lru.trace l))) && (decide (((Lru.access c key).1) = ((Lru.touch c key).1)))) && (((Lru.access c key).2.1) == ((Lru.touch c key).2.1))) && (((Lru.access c key).2.2) == ((Lru.touch c key).2.2))) && ((Lru.accessErr c key) == (Lru.check c))) && (decide (((Lru.run c l).1) = ((Lru.runGo c 0 l).1)))) && (((Lru.run c l).2) == ((Lru.runGo c 0 l).2))) && ((Lru.runErr c l) == (Lru.trace l))) && (decide (((Lru.resize c room).1) = sc))) && (Ref.sameInts ((Lru.resize c room).2) less_))) rfl) rfl rfl rfl ?_
            refine o_and (p := 180) 4 ((Lru.sizeErr c room) == (Lru.check c)) ?_ ?_ ?_
            · intro hb160 hk
              simp only [Bool.and_eq_true, beq_iff_eq, decide_eq_true_eq] at hb160
              refine o_unguard 176 rfl rfl ?_
              refine o_pure (p_move (v := .int .i64 (Lru.sizeErr c room)) rfl) rfl rfl rfl ?_
              refine o_unguard 176 rfl rfl ?_
              refine o_pure (p_move (v := .int .i64 (Lru.check c)) rfl) rfl rfl rfl ?_
              refine o_unguard 176 rfl rfl ?_
              refine o_pure (p_eq (p := (Lru.sizeErr c room)) (q := (Lru.check c)) rfl rfl) rfl rfl rfl ?_
              refine o_pure (p_pick_true (u := .bool ((Lru.sizeErr c room) == (Lru.check c))) rfl rfl) rfl rfl rfl ?_
              exact o_sub (Sub.cons rfl (Sub.skip rfl (Sub.skip rfl (Sub.skip rfl (Sub.skip rfl (Sub.skip rfl (Sub.refl _))))))) hk
            · intro hb160 hk
              refine o_guard_no rfl 176 rfl rfl rfl rfl rfl ?_
              refine o_guard_no rfl 176 rfl rfl rfl rfl rfl ?_
              refine o_guard_no rfl 176 rfl rfl rfl rfl rfl ?_
              refine o_pure (p_pick_false (v := .bool false) rfl rfl) rfl rfl rfl ?_
              exact o_sub (Sub.cons rfl (Sub.skip rfl (Sub.skip rfl (Sub.skip rfl (Sub.skip rfl (Sub.skip rfl (Sub.refl _))))))) hk
            refine o_pure (p_assign (v := .bool (((((((((((((Lru.check c) == (Lru.check c)) && ((Lru.trace l) == (Lru.trace l))) && (decide (((Lru.access c key).1) = ((Lru.touch c key).1)))) && (((Lru.access c key).2.1) == ((Lru.touch c key).2.1))) && (((Lru.access c key).2.2) == ((Lru.touch c key).2.2))) && ((Lru.accessErr c key) == (Lru.check c))) && (decide (((Lru.run c l).1) = ((Lru.runGo c 0 l).1)))) && (((Lru.run c l).2) == ((Lru.runGo c 0 l).2))) && ((Lru.runErr c l) == (Lru.trace l))) && (decide (((Lru.resize c room).1) = sc))) && (Ref.sameInts ((Lru.resize c room).2) less_)) && ((Lru.sizeErr c room) == (Lru.check c)))) rfl) rfl rfl rfl ?_
            refine o_nil ?_
            refine q_then ?_
            refine c_ret ?_
            have hr0 : ((((((((((((((Lru.check c) == (Lru.check c)) && ((Lru.trace l) == (Lru.trace l))) && (decide (((Lru.access c key).1) = ((Lru.touch c key).1)))) && (((Lru.access c key).2.1) == ((Lru.touch c key).2.1))) && (((Lru.access c key).2.2) == ((Lru.touch c key).2.2))) && ((Lru.accessErr c key) == (Lru.check c))) && (decide (((Lru.run c l).1) = ((Lru.runGo c 0 l).1)))) && (((Lru.run c l).2) == ((Lru.runGo c 0 l).2))) && ((Lru.runErr c l) == (Lru.trace l))) && (decide (((Lru.resize c room).1) = sc))) && (Ref.sameInts ((Lru.resize c room).2) less_)) && ((Lru.sizeErr c room) == (Lru.check c))) : Bool) = true := by
              rcases Lru.acc_num c key with ⟨a0, a1, a2⟩ | ⟨a0, a3, a1, a2⟩ | ⟨a0, a3, a1, a2⟩ <;> rcases Lru.run_cases c l with ⟨b0, b1, b2⟩ | ⟨b0, b3, b1, b2⟩ | ⟨b0, b3, b1, b2⟩ <;> rcases Lru.size_num c room with ⟨s0, s1, s2⟩ | ⟨s0, s3, s1, s2⟩ | ⟨s0, s3, s1, s2⟩ <;> first | (exfalso; omega) | (rw [a1, a2, b1, b2, s1, s2]; first | (simp [Lru.zero, Ref.sameInts, a0]; done) | (simp [Lru.zero, Ref.sameInts, a0, b3]; done) | (obtain ⟨hz1, hz2⟩ := hI.done (by omega); rw [hz1, hz2]; first | (simp [Lru.zero, Ref.sameInts, a0]; done) | (simp [Lru.zero, Ref.sameInts, a0, b3]; done)))
            refine q_end0 (v := .bool (((((((((((((Lru.check c) == (Lru.check c)) && ((Lru.trace l) == (Lru.trace l))) && (decide (((Lru.access c key).1) = ((Lru.touch c key).1)))) && (((Lru.access c key).2.1) == ((Lru.touch c key).2.1))) && (((Lru.access c key).2.2) == ((Lru.touch c key).2.2))) && ((Lru.accessErr c key) == (Lru.check c))) && (decide (((Lru.run c l).1) = ((Lru.runGo c 0 l).1)))) && (((Lru.run c l).2) == ((Lru.runGo c 0 l).2))) && ((Lru.runErr c l) == (Lru.trace l))) && (decide (((Lru.resize c room).1) = sc))) && (Ref.sameInts ((Lru.resize c room).2) less_)) && ((Lru.sizeErr c room) == (Lru.check c)))) (rt1 rfl (r_tmp rfl)) (i := 14) rfl ?_
            exact (by have hcc := congrArg (fun (y0 : Bool) => (.bool y0 : Value)) hr0; exact hcc)
      · simp only [beq_eq_false_iff_ne, ne_eq] at hc117
        refine c_skip ?_
        refine q_then ?_
        refine c_seq ?_
        refine c_region ?_
        refine o_pure (p_move (v := .int .i64 room) rfl) rfl rfl rfl ?_
        refine o_pure (p_lt (p := room) (q := 1) rfl rfl) rfl rfl rfl ?_
        refine o_pure (p_move (v := .bool (decide (room < 1))) rfl) rfl rfl rfl ?_
        refine o_or (p := 88) 3 (decide (40 < room)) ?_ ?_ ?_
        · intro hb161 hk
          simp only [decide_eq_false_iff_not, Int.not_lt] at hb161
          refine o_unguard 85 rfl rfl ?_
          refine o_pure (p_move (v := .int .i64 room) rfl) rfl rfl rfl ?_
          refine o_unguard 85 rfl rfl ?_
          refine o_pure (p_gt (p := room) (q := 40) rfl rfl) rfl rfl rfl ?_
          refine o_pure (p_pick_false (v := .bool (decide (40 < room))) rfl rfl) rfl rfl rfl ?_
          exact o_sub (Sub.cons rfl (Sub.skip rfl (Sub.skip rfl (Sub.skip rfl (Sub.skip rfl (Sub.refl _)))))) hk
        · intro hb161 hk
          refine o_guard_no rfl 85 rfl rfl rfl rfl rfl ?_
          refine o_guard_no rfl 85 rfl rfl rfl rfl rfl ?_
          refine o_pure (p_pick_true (u := .bool true) rfl rfl) rfl rfl rfl ?_
          exact o_sub (Sub.cons rfl (Sub.skip rfl (Sub.skip rfl (Sub.skip rfl (Sub.skip rfl (Sub.refl _)))))) hk
        refine o_nil ?_
        refine q_then ?_
        refine c_cond (b := (decide (room < 1) || decide (40 < room))) rfl (fun hc162 => ?_) (fun hc162 => ?_)
        · simp only [Bool.or_eq_true, decide_eq_true_eq] at hc162
          refine c_region ?_
          refine o_pure (p_assign (v := .int .i64 3) rfl) rfl rfl rfl ?_
          refine o_nil ?_
          refine q_then ?_
          refine c_seq ?_
          refine c_region ?_
          refine o_call0 (v := .bool true) rfl (lruBegun_ok ) hf57 (fun _ _ => trivial) rfl ?_
          refine o_pure (p_move (v := .bool true) rfl) rfl rfl rfl ?_
          refine o_unguard 118 rfl rfl ?_
          refine o_pure (p_load_agg (i := 10) (vs := [.int .i64 c.room, .slice ac_0 c.keys.length cc_0]) rfl rfl sh72 rfl rfl) rfl rfl rfl ?_
          refine o_unguard 118 rfl rfl ?_
          refine o_call0 (v := .int .i64 (Lru.check c)) rfl (lcheck_ok c ac_0 cc_0) hf58 (fun w hw => (rd_base (i := 11) rfl hc_0) w hw) rfl ?_
          refine o_unguard 118 rfl rfl ?_
          refine o_pure (p_move (v := .int .i64 (Lru.check c)) rfl) rfl rfl rfl ?_
          refine o_unguard 118 rfl rfl ?_
          refine o_pure (p_eq (p := (Lru.check c)) (q := (Lru.check c)) rfl rfl) rfl rfl rfl ?_
          refine o_pure (p_pick_true (u := .bool ((Lru.check c) == (Lru.check c))) rfl rfl) rfl rfl rfl ?_
          refine o_pure (p_move (v := .bool ((Lru.check c) == (Lru.check c))) rfl) rfl rfl rfl ?_
          refine o_and (p := 130) 6 ((Lru.trace l) == (Lru.trace l)) ?_ ?_ ?_
          · intro hb163 hk
            simp only [beq_iff_eq] at hb163
            refine o_unguard 124 rfl rfl ?_
            refine o_pure (p_move (v := .slice al l.length cl) rfl) rfl rfl rfl ?_
            refine o_unguard 124 rfl rfl ?_
            refine o_call0 (v := .int .i64 (Lru.trace l)) rfl (checkTrace_ok l al cl) hf59 (fun w hw => (rd_base (i := 11) rfl hl) w hw) rfl ?_
            refine o_unguard 124 rfl rfl ?_
            refine o_pure (p_move (v := .slice al l.length cl) rfl) rfl rfl rfl ?_
            refine o_unguard 124 rfl rfl ?_
            refine o_call0 (v := .int .i64 (Lru.trace l)) rfl (traceCheck_ok l al cl) hf44 (fun w hw => (rd_base (i := 11) rfl hl) w hw) rfl ?_
            refine o_unguard 124 rfl rfl ?_
            refine o_pure (p_eq (p := (Lru.trace l)) (q := (Lru.trace l)) rfl rfl) rfl rfl rfl ?_
            refine o_pure (p_pick_true (u := .bool ((Lru.trace l) == (Lru.trace l))) rfl rfl) rfl rfl rfl ?_
            exact o_sub (Sub.cons rfl (Sub.skip rfl (Sub.skip rfl (Sub.skip rfl (Sub.skip rfl (Sub.skip rfl (Sub.skip rfl (Sub.skip rfl (Sub.refl _))))))))) hk
          · intro hb163 hk
            refine o_guard_no rfl 124 rfl rfl rfl rfl rfl ?_
            refine o_guard_no rfl 124 rfl rfl rfl rfl rfl ?_
            refine o_guard_no rfl 124 rfl rfl rfl rfl rfl ?_
            refine o_guard_no rfl 124 rfl rfl rfl rfl rfl ?_
            refine o_guard_no rfl 124 rfl rfl rfl rfl rfl ?_
            refine o_pure (p_pick_false (v := .bool false) rfl rfl) rfl rfl rfl ?_
            exact o_sub (Sub.cons rfl (Sub.skip rfl (Sub.skip rfl (Sub.skip rfl (Sub.skip rfl (Sub.skip rfl (Sub.skip rfl (Sub.skip rfl (Sub.refl _))))))))) hk
          refine o_pure (p_move (v := .bool (((Lru.check c) == (Lru.check c)) && ((Lru.trace l) == (Lru.trace l)))) rfl) rfl rfl rfl ?_
          refine o_and (p := 135) 4 (decide (((Lru.access c key).1) = ((Lru.touch c key).1))) ?_ ?_ ?_
          · intro hb164 hk
            simp only [Bool.and_eq_true, beq_iff_eq] at hb164
            refine o_unguard 131 rfl rfl ?_
            refine o_pure (p_load_agg (i := 8) (vs := [.int .i64 (((Lru.access c key).1).room), .slice a4 (((Lru.access c key).1).keys).length c5]) rfl rfl sh72 rfl rfl) rfl rfl rfl ?_
            refine o_unguard 131 rfl rfl ?_
            refine o_pure (p_load_agg (i := 3) (vs := [.int .i64 (((Lru.touch c key).1).room), .slice a114 (((Lru.touch c key).1).keys).length c115]) rfl rfl sh72 rfl rfl) rfl rfl rfl ?_
            refine o_unguard 131 rfl rfl ?_
            refine o_call0 (v := .bool (decide (((Lru.access c key).1) = ((Lru.touch c key).1)))) rfl (sameCache_ok ((Lru.access c key).1) a4 c5 ((Lru.touch c key).1) a114 c115) hf60 (fun w hw => ⟨(rd_own (i := 9) rfl) w hw, (rd_own (i := 0) rfl) w hw⟩) rfl ?_
            refine o_pure (p_pick_true (u := .bool (decide (((Lru.access c key).1) = ((Lru.touch c key).1)))) rfl rfl) rfl rfl rfl ?_
            exact o_sub (Sub.cons rfl (Sub.skip rfl (Sub.skip rfl (Sub.skip rfl (Sub.skip rfl (Sub.skip rfl (Sub.refl _))))))) hk
          · intro hb164 hk
            refine o_guard_no rfl 131 rfl rfl rfl rfl rfl ?_
            refine o_guard_no rfl 131 rfl rfl rfl rfl rfl ?_
            refine o_guard_no rfl 131 rfl rfl rfl rfl rfl ?_
            refine o_pure (p_pick_false (v := .bool false) rfl rfl) rfl rfl rfl ?_
            exact o_sub (Sub.cons rfl (Sub.skip rfl (Sub.skip rfl (Sub.skip rfl (Sub.skip rfl (Sub.skip rfl (Sub.refl _))))))) hk
          refine o_pure (p_move (v := .bool ((((Lru.check c) == (Lru.check c)) && ((Lru.trace l) == (Lru.trace l))) && (decide (((Lru.access c key).1) = ((Lru.touch c key).1))))) rfl) rfl rfl rfl ?_
          refine o_and (p := 140) 4 (((Lru.access c key).2.1) == ((Lru.touch c key).2.1)) ?_ ?_ ?_
          · intro hb165 hk
            simp only [Bool.and_eq_true, beq_iff_eq, decide_eq_true_eq] at hb165
            refine o_unguard 136 rfl rfl ?_
            refine o_pure (p_move (v := .bool ((Lru.access c key).2.1)) rfl) rfl rfl rfl ?_
            refine o_unguard 136 rfl rfl ?_
            refine o_pure (p_move (v := .bool ((Lru.touch c key).2.1)) rfl) rfl rfl rfl ?_
            refine o_unguard 136 rfl rfl ?_
            refine o_pure (p_eqBool (b := ((Lru.access c key).2.1)) (c := ((Lru.touch c key).2.1)) rfl rfl Try.underlying4) rfl rfl rfl ?_
            refine o_pure (p_pick_true (u := .bool (((Lru.access c key).2.1) == ((Lru.touch c key).2.1))) rfl rfl) rfl rfl rfl ?_
            exact o_sub (Sub.cons rfl (Sub.skip rfl (Sub.skip rfl (Sub.skip rfl (Sub.skip rfl (Sub.skip rfl (Sub.refl _))))))) hk
          · intro hb165 hk
            refine o_guard_no rfl 136 rfl rfl rfl rfl rfl ?_
            refine o_guard_no rfl 136 rfl rfl rfl rfl rfl ?_
            refine o_guard_no rfl 136 rfl rfl rfl rfl rfl ?_
            refine o_pure (p_pick_false (v := .bool false) rfl rfl) rfl rfl rfl ?_
            exact o_sub (Sub.cons rfl (Sub.skip rfl (Sub.skip rfl (Sub.skip rfl (Sub.skip rfl (Sub.skip rfl (Sub.refl _))))))) hk
          refine o_pure (p_move (v := .bool (((((Lru.check c) == (Lru.check c)) && ((Lru.trace l) == (Lru.trace l))) && (decide (((Lru.access c key).1) = ((Lru.touch c key).1)))) && (((Lru.access c key).2.1) == ((Lru.touch c key).2.1)))) rfl) rfl rfl rfl ?_
          refine o_and (p := 145) 4 (((Lru.access c key).2.2) == ((Lru.touch c key).2.2)) ?_ ?_ ?_
          · intro hb166 hk
            simp only [Bool.and_eq_true, beq_iff_eq, decide_eq_true_eq] at hb166
            refine o_unguard 141 rfl rfl ?_
            refine o_pure (p_move (v := .int .i64 ((Lru.access c key).2.2)) rfl) rfl rfl rfl ?_
            refine o_unguard 141 rfl rfl ?_
            refine o_pure (p_move (v := .int .i64 ((Lru.touch c key).2.2)) rfl) rfl rfl rfl ?_
            refine o_unguard 141 rfl rfl ?_
            refine o_pure (p_eq (p := ((Lru.access c key).2.2)) (q := ((Lru.touch c key).2.2)) rfl rfl) rfl rfl rfl ?_
            refine o_pure (p_pick_true (u := .bool (((Lru.access c key).2.2) == ((Lru.touch c key).2.2))) rfl rfl) rfl rfl rfl ?_
            exact o_sub (Sub.cons rfl (Sub.skip rfl (Sub.skip rfl (Sub.skip rfl (Sub.skip rfl (Sub.skip rfl (Sub.refl _))))))) hk
          · intro hb166 hk
            refine o_guard_no rfl 141 rfl rfl rfl rfl rfl ?_
            refine o_guard_no rfl 141 rfl rfl rfl rfl rfl ?_
            refine o_guard_no rfl 141 rfl rfl rfl rfl rfl ?_
            refine o_pure (p_pick_false (v := .bool false) rfl rfl) rfl rfl rfl ?_
            exact o_sub (Sub.cons rfl (Sub.skip rfl (Sub.skip rfl (Sub.skip rfl (Sub.skip rfl (Sub.skip rfl (Sub.refl _))))))) hk
          refine o_pure (p_move (v := .bool ((((((Lru.check c) == (Lru.check c)) && ((Lru.trace l) == (Lru.trace l))) && (decide (((Lru.access c key).1) = ((Lru.touch c key).1)))) && (((Lru.access c key).2.1) == ((Lru.touch c key).2.1))) && (((Lru.access c key).2.2) == ((Lru.touch c key).2.2)))) rfl) rfl rfl rfl ?_
          refine o_and (p := 150) 4 ((Lru.accessErr c key) == (Lru.check c)) ?_ ?_ ?_
          · intro hb167 hk
            simp only [Bool.and_eq_true, beq_iff_eq, decide_eq_true_eq] at hb167
            refine o_unguard 146 rfl rfl ?_
            refine o_pure (p_move (v := .int .i64 (Lru.accessErr c key)) rfl) rfl rfl rfl ?_
            refine o_unguard 146 rfl rfl ?_
            refine o_pure (p_move (v := .int .i64 (Lru.check c)) rfl) rfl rfl rfl ?_
            refine o_unguard 146 rfl rfl ?_
            refine o_pure (p_eq (p := (Lru.accessErr c key)) (q := (Lru.check c)) rfl rfl) rfl rfl rfl ?_
            refine o_pure (p_pick_true (u := .bool ((Lru.accessErr c key) == (Lru.check c))) rfl rfl) rfl rfl rfl ?_
            exact o_sub (Sub.cons rfl (Sub.skip rfl (Sub.skip rfl (Sub.skip rfl (Sub.skip rfl (Sub.skip rfl (Sub.refl _))))))) hk
          · intro hb167 hk
            refine o_guard_no rfl 146 rfl rfl rfl rfl rfl ?_
            refine o_guard_no rfl 146 rfl rfl rfl rfl rfl ?_
            refine o_guard_no rfl 146 rfl rfl rfl rfl rfl ?_
            refine o_pure (p_pick_false (v := .bool false) rfl rfl) rfl rfl rfl ?_
            exact o_sub (Sub.cons rfl (Sub.skip rfl (Sub.skip rfl (Sub.skip rfl (Sub.skip rfl (Sub.skip rfl (Sub.refl _))))))) hk
          refine o_pure (p_move (v := .bool (((((((Lru.check c) == (Lru.check c)) && ((Lru.trace l) == (Lru.trace l))) && (decide (((Lru.access c key).1) = ((Lru.touch c key).1)))) && (((Lru.access c key).2.1) == ((Lru.touch c key).2.1))) && (((Lru.access c key).2.2) == ((Lru.touch c key).2.2))) && ((Lru.accessErr c key) == (Lru.check c)))) rfl) rfl rfl rfl ?_
          refine o_and (p := 155) 4 (decide (((Lru.run c l).1) = (⟨0, []⟩ : DCache))) ?_ ?_ ?_
          · intro hb168 hk
            simp only [Bool.and_eq_true, beq_iff_eq, decide_eq_true_eq] at hb168
            refine o_unguard 151 rfl rfl ?_
            refine o_pure (p_load_agg (i := 6) (vs := [.int .i64 (((Lru.run c l).1).room), .slice a10 (((Lru.run c l).1).keys).length c11]) rfl rfl sh72 rfl rfl) rfl rfl rfl ?_
            refine o_unguard 151 rfl rfl ?_
            refine o_pure (p_load_agg (i := 2) (vs := [.int .i64 0, .slice none 0 0]) rfl rfl sh72 rfl rfl) rfl rfl rfl ?_
            refine o_unguard 151 rfl rfl ?_
            refine o_call0 (v := .bool (decide (((Lru.run c l).1) = (⟨0, []⟩ : DCache)))) rfl (sameCache_ok ((Lru.run c l).1) a10 c11 (⟨0, []⟩ : DCache) none 0) hf60 (fun w hw => ⟨(rd_own (i := 7) rfl) w hw, rd_nil w hw⟩) rfl ?_
            refine o_pure (p_pick_true (u := .bool (decide (((Lru.run c l).1) = (⟨0, []⟩ : DCache)))) rfl rfl) rfl rfl rfl ?_
            exact o_sub (Sub.cons rfl (Sub.skip rfl (Sub.skip rfl (Sub.skip rfl (Sub.skip rfl (Sub.skip rfl (Sub.refl _))))))) hk
          · intro hb168 hk
            refine o_guard_no rfl 151 rfl rfl rfl rfl rfl ?_
            refine o_guard_no rfl 151 rfl rfl rfl rfl rfl ?_
            refine o_guard_no rfl 151 rfl rfl rfl rfl rfl ?_
            refine o_pure (p_pick_false (v := .bool false) rfl rfl) rfl rfl rfl ?_
            exact o_sub (Sub.cons rfl (Sub.skip rfl (Sub.skip rfl (Sub.skip rfl (Sub.skip rfl (Sub.skip rfl (Sub.refl _))))))) hk
          refine o_pure (p_move (v := .bool ((((((((Lru.check c) == (Lru.check c)) && ((Lru.trace l) == (Lru.trace l))) && (decide (((Lru.access c key).1) = ((Lru.touch c key).1)))) && (((Lru.access c key).2.1) == ((Lru.touch c key).2.1))) && (((Lru.access c key).2.2) == ((Lru.touch c key).2.2))) && ((Lru.accessErr c key) == (Lru.check c))) && (decide (((Lru.run c l).1) = (⟨0, []⟩ : DCache))))) rfl) rfl rfl rfl ?_
          refine o_and (p := 160) 4 (((Lru.run c l).2) == 0) ?_ ?_ ?_
          · intro hb169 hk
            simp only [Bool.and_eq_true, beq_iff_eq, decide_eq_true_eq] at hb169
            refine o_unguard 156 rfl rfl ?_
            refine o_pure (p_move (v := .int .i64 ((Lru.run c l).2)) rfl) rfl rfl rfl ?_
            refine o_unguard 156 rfl rfl ?_
            refine o_pure (p_move (v := .int .i64 0) rfl) rfl rfl rfl ?_
            refine o_unguard 156 rfl rfl ?_
            refine o_pure (p_eq (p := ((Lru.run c l).2)) (q := 0) rfl rfl) rfl rfl rfl ?_
            refine o_pure (p_pick_true (u := .bool (((Lru.run c l).2) == 0)) rfl rfl) rfl rfl rfl ?_
            exact o_sub (Sub.cons rfl (Sub.skip rfl (Sub.skip rfl (Sub.skip rfl (Sub.skip rfl (Sub.skip rfl (Sub.refl _))))))) hk
          · intro hb169 hk
            refine o_guard_no rfl 156 rfl rfl rfl rfl rfl ?_
            refine o_guard_no rfl 156 rfl rfl rfl rfl rfl ?_
            refine o_guard_no rfl 156 rfl rfl rfl rfl rfl ?_
            refine o_pure (p_pick_false (v := .bool false) rfl rfl) rfl rfl rfl ?_
            exact o_sub (Sub.cons rfl (Sub.skip rfl (Sub.skip rfl (Sub.skip rfl (Sub.skip rfl (Sub.skip rfl (Sub.refl _))))))) hk
          refine o_pure (p_move (v := .bool (((((((((Lru.check c) == (Lru.check c)) && ((Lru.trace l) == (Lru.trace l))) && (decide (((Lru.access c key).1) = ((Lru.touch c key).1)))) && (((Lru.access c key).2.1) == ((Lru.touch c key).2.1))) && (((Lru.access c key).2.2) == ((Lru.touch c key).2.2))) && ((Lru.accessErr c key) == (Lru.check c))) && (decide (((Lru.run c l).1) = (⟨0, []⟩ : DCache)))) && (((Lru.run c l).2) == 0))) rfl) rfl rfl rfl ?_
          refine o_and (p := 165) 4 ((Lru.runErr c l) == (Lru.trace l)) ?_ ?_ ?_
          · intro hb170 hk
            simp only [Bool.and_eq_true, beq_iff_eq, decide_eq_true_eq] at hb170
            refine o_unguard 161 rfl rfl ?_
            refine o_pure (p_move (v := .int .i64 (Lru.runErr c l)) rfl) rfl rfl rfl ?_
            refine o_unguard 161 rfl rfl ?_
            refine o_pure (p_move (v := .int .i64 (Lru.trace l)) rfl) rfl rfl rfl ?_
            refine o_unguard 161 rfl rfl ?_
            refine o_pure (p_eq (p := (Lru.runErr c l)) (q := (Lru.trace l)) rfl rfl) rfl rfl rfl ?_
            refine o_pure (p_pick_true (u := .bool ((Lru.runErr c l) == (Lru.trace l))) rfl rfl) rfl rfl rfl ?_
            exact o_sub (Sub.cons rfl (Sub.skip rfl (Sub.skip rfl (Sub.skip rfl (Sub.skip rfl (Sub.skip rfl (Sub.refl _))))))) hk
          · intro hb170 hk
            refine o_guard_no rfl 161 rfl rfl rfl rfl rfl ?_
            refine o_guard_no rfl 161 rfl rfl rfl rfl rfl ?_
            refine o_guard_no rfl 161 rfl rfl rfl rfl rfl ?_
            refine o_pure (p_pick_false (v := .bool false) rfl rfl) rfl rfl rfl ?_
            exact o_sub (Sub.cons rfl (Sub.skip rfl (Sub.skip rfl (Sub.skip rfl (Sub.skip rfl (Sub.skip rfl (Sub.refl _))))))) hk
          refine o_pure (p_move (v := .bool ((((((((((Lru.check c) == (Lru.check c)) && ((Lru.trace l) == (Lru.trace l))) && (decide (((Lru.access c key).1) = ((Lru.touch c key).1)))) && (((Lru.access c key).2.1) == ((Lru.touch c key).2.1))) && (((Lru.access c key).2.2) == ((Lru.touch c key).2.2))) && ((Lru.accessErr c key) == (Lru.check c))) && (decide (((Lru.run c l).1) = (⟨0, []⟩ : DCache)))) && (((Lru.run c l).2) == 0)) && ((Lru.runErr c l) == (Lru.trace l)))) rfl) rfl rfl rfl ?_
          refine o_and (p := 170) 4 (decide (((Lru.resize c room).1) = (⟨0, []⟩ : DCache))) ?_ ?_ ?_
          · intro hb171 hk
            simp only [Bool.and_eq_true, beq_iff_eq, decide_eq_true_eq] at hb171
            refine o_unguard 166 rfl rfl ?_
            refine o_pure (p_load_agg (i := 4) (vs := [.int .i64 (((Lru.resize c room).1).room), .slice a16 (((Lru.resize c room).1).keys).length c17]) rfl rfl sh72 rfl rfl) rfl rfl rfl ?_
            refine o_unguard 166 rfl rfl ?_
            refine o_pure (p_load_agg (i := 1) (vs := [.int .i64 0, .slice none 0 0]) rfl rfl sh72 rfl rfl) rfl rfl rfl ?_
            refine o_unguard 166 rfl rfl ?_
            refine o_call0 (v := .bool (decide (((Lru.resize c room).1) = (⟨0, []⟩ : DCache)))) rfl (sameCache_ok ((Lru.resize c room).1) a16 c17 (⟨0, []⟩ : DCache) none 0) hf60 (fun w hw => ⟨(rd_ent (i := 5) rfl (fun w h => h.1)) w hw, rd_nil w hw⟩) rfl ?_
            refine o_pure (p_pick_true (u := .bool (decide (((Lru.resize c room).1) = (⟨0, []⟩ : DCache)))) rfl rfl) rfl rfl rfl ?_
            exact o_sub (Sub.cons rfl (Sub.skip rfl (Sub.skip rfl (Sub.skip rfl (Sub.skip rfl (Sub.skip rfl (Sub.refl _))))))) hk
          · intro hb171 hk
            refine o_guard_no rfl 166 rfl rfl rfl rfl rfl ?_
            refine o_guard_no rfl 166 rfl rfl rfl rfl rfl ?_
            refine o_guard_no rfl 166 rfl rfl rfl rfl rfl ?_
            refine o_pure (p_pick_false (v := .bool false) rfl rfl) rfl rfl rfl ?_
            exact o_sub (Sub.cons rfl (Sub.skip rfl (Sub.skip rfl (Sub.skip rfl (Sub.skip rfl (Sub.skip rfl (Sub.refl _))))))) hk
          refine o_pure (p_move (v := .bool (((((((((((Lru.check c) == (Lru.check c)) && ((Lru.trace l) == (Lru.trace l))) && (decide (((Lru.access c key).1) = ((Lru.touch c key).1)))) && (((Lru.access c key).2.1) == ((Lru.touch c key).2.1))) && (((Lru.access c key).2.2) == ((Lru.touch c key).2.2))) && ((Lru.accessErr c key) == (Lru.check c))) && (decide (((Lru.run c l).1) = (⟨0, []⟩ : DCache)))) && (((Lru.run c l).2) == 0)) && ((Lru.runErr c l) == (Lru.trace l))) && (decide (((Lru.resize c room).1) = (⟨0, []⟩ : DCache))))) rfl) rfl rfl rfl ?_
          refine o_and (p := 175) 4 (Ref.sameInts ((Lru.resize c room).2) []) ?_ ?_ ?_
          · intro hb172 hk
            simp only [Bool.and_eq_true, beq_iff_eq, decide_eq_true_eq] at hb172
            refine o_unguard 171 rfl rfl ?_
            refine o_pure (p_move (v := .slice a18 ((Lru.resize c room).2).length c19) rfl) rfl rfl rfl ?_
            refine o_unguard 171 rfl rfl ?_
            refine o_pure (p_move (v := .slice none 0 0) rfl) rfl rfl rfl ?_
            refine o_unguard 171 rfl rfl ?_
            refine o_call0 (v := .bool (Ref.sameInts ((Lru.resize c room).2) [])) rfl (sameInts_ok ((Lru.resize c room).2) a18 c19 [] none 0) hf47 (fun w hw => ⟨(rd_ent (i := 5) rfl (fun w h => h.2)) w hw, rd_nil w hw⟩) rfl ?_
            refine o_pure (p_pick_true (u := .bool (Ref.sameInts ((Lru.resize c room).2) [])) rfl rfl) rfl rfl rfl ?_
            exact o_sub (Sub.cons rfl (Sub.skip rfl (Sub.skip rfl (Sub.skip rfl (Sub.skip rfl (Sub.skip rfl (Sub.refl _))))))) hk
          · intro hb172 hk
            refine o_guard_no rfl 171 rfl rfl rfl rfl rfl ?_
            refine o_guard_no rfl 171 rfl rfl rfl rfl rfl ?_
            refine o_guard_no rfl 171 rfl rfl rfl rfl rfl ?_
            refine o_pure (p_pick_false (v := .bool false) rfl rfl) rfl rfl rfl ?_
            exact o_sub (Sub.cons rfl (Sub.skip rfl (Sub.skip rfl (Sub.skip rfl (Sub.skip rfl (Sub.skip rfl (Sub.refl _))))))) hk
          refine o_pure (p_move (v := .bool ((((((((((((Lru.check c) == (Lru.check c)) && ((Lru.trace l) == (Lru.trace l))) && (decide (((Lru.access c key).1) = ((Lru.touch c key).1)))) && (((Lru.access c key).2.1) == ((Lru.touch c key).2.1))) && (((Lru.access c key).2.2) == ((Lru.touch c key).2.2))) && ((Lru.accessErr c key) == (Lru.check c))) && (decide (((Lru.run c l).1) = (⟨0, []⟩ : DCache)))) && (((Lru.run c l).2) == 0)) && ((Lru.runErr c l) == (Lru.trace l))) && (decide (((Lru.resize c room).1) = (⟨0, []⟩ : DCache)))) && (Ref.sameInts ((Lru.resize c room).2) []))) rfl) rfl rfl rfl ?_
          refine o_and (p := 180) 4 ((Lru.sizeErr c room) == 3) ?_ ?_ ?_
          · intro hb173 hk
            simp only [Bool.and_eq_true, beq_iff_eq, decide_eq_true_eq] at hb173
            refine o_unguard 176 rfl rfl ?_
            refine o_pure (p_move (v := .int .i64 (Lru.sizeErr c room)) rfl) rfl rfl rfl ?_
            refine o_unguard 176 rfl rfl ?_
            refine o_pure (p_move (v := .int .i64 3) rfl) rfl rfl rfl ?_
            refine o_unguard 176 rfl rfl ?_
            refine o_pure (p_eq (p := (Lru.sizeErr c room)) (q := 3) rfl rfl) rfl rfl rfl ?_
            refine o_pure (p_pick_true (u := .bool ((Lru.sizeErr c room) == 3)) rfl rfl) rfl rfl rfl ?_
            exact o_sub (Sub.cons rfl (Sub.skip rfl (Sub.skip rfl (Sub.skip rfl (Sub.skip rfl (Sub.skip rfl (Sub.refl _))))))) hk
          · intro hb173 hk
            refine o_guard_no rfl 176 rfl rfl rfl rfl rfl ?_
            refine o_guard_no rfl 176 rfl rfl rfl rfl rfl ?_
            refine o_guard_no rfl 176 rfl rfl rfl rfl rfl ?_
            refine o_pure (p_pick_false (v := .bool false) rfl rfl) rfl rfl rfl ?_
            exact o_sub (Sub.cons rfl (Sub.skip rfl (Sub.skip rfl (Sub.skip rfl (Sub.skip rfl (Sub.skip rfl (Sub.refl _))))))) hk
          refine o_pure (p_assign (v := .bool (((((((((((((Lru.check c) == (Lru.check c)) && ((Lru.trace l) == (Lru.trace l))) && (decide (((Lru.access c key).1) = ((Lru.touch c key).1)))) && (((Lru.access c key).2.1) == ((Lru.touch c key).2.1))) && (((Lru.access c key).2.2) == ((Lru.touch c key).2.2))) && ((Lru.accessErr c key) == (Lru.check c))) && (decide (((Lru.run c l).1) = (⟨0, []⟩ : DCache)))) && (((Lru.run c l).2) == 0)) && ((Lru.runErr c l) == (Lru.trace l))) && (decide (((Lru.resize c room).1) = (⟨0, []⟩ : DCache)))) && (Ref.sameInts ((Lru.resize c room).2) [])) && ((Lru.sizeErr c room) == 3))) rfl) rfl rfl rfl ?_
          refine o_nil ?_
          refine q_then ?_
          refine c_ret ?_
          have hr0 : ((((((((((((((Lru.check c) == (Lru.check c)) && ((Lru.trace l) == (Lru.trace l))) && (decide (((Lru.access c key).1) = ((Lru.touch c key).1)))) && (((Lru.access c key).2.1) == ((Lru.touch c key).2.1))) && (((Lru.access c key).2.2) == ((Lru.touch c key).2.2))) && ((Lru.accessErr c key) == (Lru.check c))) && (decide (((Lru.run c l).1) = (⟨0, []⟩ : DCache)))) && (((Lru.run c l).2) == 0)) && ((Lru.runErr c l) == (Lru.trace l))) && (decide (((Lru.resize c room).1) = (⟨0, []⟩ : DCache)))) && (Ref.sameInts ((Lru.resize c room).2) [])) && ((Lru.sizeErr c room) == 3)) : Bool) = true := by
            rcases Lru.acc_num c key with ⟨a0, a1, a2⟩ | ⟨a0, a3, a1, a2⟩ | ⟨a0, a3, a1, a2⟩ <;> rcases Lru.run_cases c l with ⟨b0, b1, b2⟩ | ⟨b0, b3, b1, b2⟩ | ⟨b0, b3, b1, b2⟩ <;> rcases Lru.size_num c room with ⟨s0, s1, s2⟩ | ⟨s0, s3, s1, s2⟩ | ⟨s0, s3, s1, s2⟩ <;> first | (exfalso; omega) | (rw [a1, a2, b1, b2, s1, s2]; first | (simp [Lru.zero, Ref.sameInts, a0]; done) | (simp [Lru.zero, Ref.sameInts, a0, b3]; done) | (obtain ⟨hz1, hz2⟩ := hI.done (by omega); rw [hz1, hz2]; first | (simp [Lru.zero, Ref.sameInts, a0]; done) | (simp [Lru.zero, Ref.sameInts, a0, b3]; done)))
          refine q_end0 (v := .bool (((((((((((((Lru.check c) == (Lru.check c)) && ((Lru.trace l) == (Lru.trace l))) && (decide (((Lru.access c key).1) = ((Lru.touch c key).1)))) && (((Lru.access c key).2.1) == ((Lru.touch c key).2.1))) && (((Lru.access c key).2.2) == ((Lru.touch c key).2.2))) && ((Lru.accessErr c key) == (Lru.check c))) && (decide (((Lru.run c l).1) = (⟨0, []⟩ : DCache)))) && (((Lru.run c l).2) == 0)) && ((Lru.runErr c l) == (Lru.trace l))) && (decide (((Lru.resize c room).1) = (⟨0, []⟩ : DCache)))) && (Ref.sameInts ((Lru.resize c room).2) [])) && ((Lru.sizeErr c room) == 3))) (rt1 rfl (r_tmp rfl)) (i := 11) rfl ?_
          exact (by have hcc := congrArg (fun (y0 : Bool) => (.bool y0 : Value)) hr0; exact hcc)
        · simp only [Bool.or_eq_false_iff, decide_eq_false_iff_not, Int.not_lt] at hc162
          refine c_seq ?_
          refine c_region ?_
          refine o_pure (p_move (v := .int .i64 room) rfl) rfl rfl rfl ?_
          refine o_buildSlice (m := 0) (T := tInt) (L := []) (vs := []) rfl rfl rfl rfl Try.underlying52 sz3 (by decide) ze3 rfl (by decide) rfl (fun S174 a175 => ?_)
          refine o_pure (p_fieldAddr (B := B1) (j := 0) (j' := 1) rfl fo72_1 rfl) rfl rfl rfl ?_
          refine o_pure (p_load (i := 11) (v := .slice ac_0 c.keys.length cc_0) rfl rfl sh52 rfl) rfl rfl rfl ?_
          refine o_append (i := 0) (L := []) (M := c.keys) (T := tInt) rfl rfl rfl (rd_base (i := 12) rfl hc_0) Try.underlying52 Try.underlying52 (by intro k h; cases h) el3 (by intro z; simp [tInt, one1]) (by decide) (by first | omega | (simp only [List.length_cons, List.length_nil]; omega) | (simp only [List.length_append, List.length_cons, List.length_nil, List.length_take, List.length_drop]; omega)) rfl (fun a177 c178 S179 => ?_)
          refine o_pure (p_build (cells := [.int .i64 room, .slice a177 c.keys.length c178]) fp72 ze72 rfl rfl) rfl rfl rfl ?_
          refine o_storeN (i := 2) (vs := [.int .i64 room, .slice a177 c.keys.length c178]) (cs' := [.int .i64 room, .slice a177 c.keys.length c178]) rfl rfl rfl sz72 rfl rfl rfl rfl ?_
          refine o_nil ?_
          refine q_then ?_
          refine c_block ?_
          refine c_ownNil tInt ?_
          refine c_loop (St := List Int × Option Addr × Nat × (Nat → Prop) × DCache × Option Addr × Nat × (Nat → Prop))
            (fun ⟨less_, aless_, cless_, Sless_, sc, asc_0, csc_0, Ssc_0⟩ => [(2, .slice al l.length cl), (3, .int .i64 room), (4, .pointer (some ⟨B1, 0, none⟩)), (9, .pointer (some ⟨B7, 0, none⟩)), (10, .bool ((Lru.access c key).2.1)), (11, .int .i64 ((Lru.access c key).2.2)), (12, .int .i64 (Lru.accessErr c key)), (13, .pointer (some ⟨B13, 0, none⟩)), (14, .int .i64 ((Lru.run c l).2)), (15, .int .i64 (Lru.runErr c l)), (16, .pointer (some ⟨B22, 0, none⟩)), (17, .slice a18 ((Lru.resize c room).2).length c19), (18, .int .i64 (Lru.sizeErr c room)), (19, .int .i64 (Lru.check c)), (20, .int .i64 (Lru.check c)), (21, .int .i64 (Lru.trace l)), (22, .int .i64 (Lru.check c)), (23, .pointer (some ⟨B23, 0, none⟩)), (24, .pointer (some ⟨B24, 0, none⟩)), (25, .pointer (some ⟨B25, 0, none⟩)), (26, .bool ((Lru.touch c key).2.1)), (27, .int .i64 ((Lru.touch c key).2.2)), (28, .int .i64 0), (29, .slice aless_ less_.length cless_)])
            (fun ⟨less_, aless_, cless_, Sless_, sc, asc_0, csc_0, Ssc_0⟩ => [own tInt Sless_ aless_ cless_ less_, own tInt Ssc_0 asc_0 csc_0 sc.keys, own tInt S112 a114 c115 (((Lru.touch c key).1).keys), box B25 [.int .i64 sc.room, .slice asc_0 sc.keys.length csc_0] 72, box B24 [.int .i64 0, .slice none 0 0] 72, box B23 [.int .i64 (((Lru.touch c key).1).room), .slice a114 (((Lru.touch c key).1).keys).length c115] 72, box B22 [.int .i64 (((Lru.resize c room).1).room), .slice a16 (((Lru.resize c room).1).keys).length c17] 72, ⟨S14, fun w => SlR tInt S14 w a16 c17 (((Lru.resize c room).1).keys) ∧ SlR tInt S14 w a18 c19 ((Lru.resize c room).2)⟩, box B13 [.int .i64 (((Lru.run c l).1).room), .slice a10 (((Lru.run c l).1).keys).length c11] 72, own tInt S8 a10 c11 (((Lru.run c l).1).keys), box B7 [.int .i64 (((Lru.access c key).1).room), .slice a4 (((Lru.access c key).1).keys).length c5] 72, own tInt S2 a4 c5 (((Lru.access c key).1).keys), box B1 [.int .i64 c.room, .slice ac_0 c.keys.length cc_0] 72, base w0])
            (fun ⟨less_, aless_, cless_, Sless_, sc, asc_0, csc_0, Ssc_0⟩ => Lru.ZInv c room sc less_)
            (fun ⟨less_, aless_, cless_, Sless_, sc, asc_0, csc_0, Ssc_0⟩ => sc.keys.length)
            ([], none, 0, (fun _ => False), (⟨room, c.keys⟩ : DCache), a177, c178, S179) ?_ (Sub.cons rfl (Sub.cons rfl (Sub.cons rfl (Sub.cons rfl (Sub.cons rfl (Sub.cons rfl (Sub.cons rfl (Sub.cons rfl (Sub.cons rfl (Sub.cons rfl (Sub.cons rfl (Sub.cons rfl (Sub.cons rfl (Sub.cons rfl (Sub.cons rfl (Sub.cons rfl (Sub.cons rfl (Sub.cons rfl (Sub.cons rfl (Sub.cons rfl (Sub.cons rfl (Sub.cons rfl (Sub.cons rfl (Sub.cons rfl (Sub.nil _))))))))))))))))))))))))) (fun _ hw => hw) ?_
          · exact Lru.ZInv.start (by omega)
          rintro ⟨less_, aless_, cless_, Sless_, sc, asc_0, csc_0, Ssc_0⟩ hI K hK181
          have hzl := hI.len
          have hzb := hI.rb
          show SC _ _ Try.prog 181 w0 _ _ [(2, .slice al l.length cl), (3, .int .i64 room), (4, .pointer (some ⟨B1, 0, none⟩)), (9, .pointer (some ⟨B7, 0, none⟩)), (10, .bool ((Lru.access c key).2.1)), (11, .int .i64 ((Lru.access c key).2.2)), (12, .int .i64 (Lru.accessErr c key)), (13, .pointer (some ⟨B13, 0, none⟩)), (14, .int .i64 ((Lru.run c l).2)), (15, .int .i64 (Lru.runErr c l)), (16, .pointer (some ⟨B22, 0, none⟩)), (17, .slice a18 ((Lru.resize c room).2).length c19), (18, .int .i64 (Lru.sizeErr c room)), (19, .int .i64 (Lru.check c)), (20, .int .i64 (Lru.check c)), (21, .int .i64 (Lru.trace l)), (22, .int .i64 (Lru.check c)), (23, .pointer (some ⟨B23, 0, none⟩)), (24, .pointer (some ⟨B24, 0, none⟩)), (25, .pointer (some ⟨B25, 0, none⟩)), (26, .bool ((Lru.touch c key).2.1)), (27, .int .i64 ((Lru.touch c key).2.2)), (28, .int .i64 0), (29, .slice aless_ less_.length cless_)] [own tInt Sless_ aless_ cless_ less_, own tInt Ssc_0 asc_0 csc_0 sc.keys, own tInt S112 a114 c115 (((Lru.touch c key).1).keys), box B25 [.int .i64 sc.room, .slice asc_0 sc.keys.length csc_0] 72, box B24 [.int .i64 0, .slice none 0 0] 72, box B23 [.int .i64 (((Lru.touch c key).1).room), .slice a114 (((Lru.touch c key).1).keys).length c115] 72, box B22 [.int .i64 (((Lru.resize c room).1).room), .slice a16 (((Lru.resize c room).1).keys).length c17] 72, ⟨S14, fun w => SlR tInt S14 w a16 c17 (((Lru.resize c room).1).keys) ∧ SlR tInt S14 w a18 c19 ((Lru.resize c room).2)⟩, box B13 [.int .i64 (((Lru.run c l).1).room), .slice a10 (((Lru.run c l).1).keys).length c11] 72, own tInt S8 a10 c11 (((Lru.run c l).1).keys), box B7 [.int .i64 (((Lru.access c key).1).room), .slice a4 (((Lru.access c key).1).keys).length c5] 72, own tInt S2 a4 c5 (((Lru.access c key).1).keys), box B1 [.int .i64 c.room, .slice ac_0 c.keys.length cc_0] 72, base w0]
          refine c_seq ?_
          refine c_seq ?_
          refine c_region ?_
          refine o_pure (p_fieldAddr (B := B25) (j := 0) (j' := 1) rfl fo72_1 rfl) rfl rfl rfl ?_
          refine o_pure (p_load (i := 3) (v := .slice asc_0 sc.keys.length csc_0) rfl rfl sh52 rfl) rfl rfl rfl ?_
          refine o_pure (p_len_slice (len := sc.keys.length) rfl rfl Try.underlying52) rfl rfl rfl ?_
          refine o_pure (p_move (v := .int .i64 room) rfl) rfl rfl rfl ?_
          refine o_pure (p_gt (p := (sc.keys.length : Int)) (q := room) rfl rfl) rfl rfl rfl ?_
          refine o_nil ?_
          refine q_then ?_
          refine c_cond (b := decide (room < (sc.keys.length : Int))) rfl (fun hc182 => ?_) (fun hc182 => ?_)
          · simp only [decide_eq_true_eq] at hc182
            refine c_skip ?_
            refine q_then ?_
            refine c_block ?_
            refine c_seq ?_
            refine c_region ?_
            refine o_pure (p_fieldAddr (B := B25) (j := 0) (j' := 1) rfl fo72_1 rfl) rfl rfl rfl ?_
            refine o_pure (p_load (i := 3) (v := .slice asc_0 sc.keys.length csc_0) rfl rfl sh52 rfl) rfl rfl rfl ?_
            refine o_pure (p_len_slice (len := sc.keys.length) rfl rfl Try.underlying52) rfl rfl rfl ?_
            refine o_pure (p_subb (p := (sc.keys.length : Int)) (q := 1) rfl rfl (by omega)) rfl rfl rfl ?_
            refine o_pure (p_assign (v := .int .i64 ((sc.keys.length : Int) - 1)) rfl) rfl rfl rfl ?_
            refine o_nil ?_
            refine q_then ?_
            refine c_seq ?_
            refine c_region ?_
            refine o_pure (p_move (v := .slice aless_ less_.length cless_) rfl) rfl rfl rfl ?_
            refine o_pure (p_fieldAddr (B := B25) (j := 0) (j' := 1) rfl fo72_1 rfl) rfl rfl rfl ?_
            refine o_pure (p_load (i := 3) (v := .slice asc_0 sc.keys.length csc_0) rfl rfl sh52 rfl) rfl rfl rfl ?_
            refine o_pure (p_move (v := .int .i64 ((sc.keys.length : Int) - 1)) rfl) rfl rfl rfl ?_
            refine o_pure (p_indexAddr (L := sc.keys) (T := tInt) (i := ((sc.keys.length : Int) - 1)) rfl rfl (rd_own (i := 1) rfl) Try.underlying52 sz3 (by omega) (by omega)) rfl rfl rfl ?_
            refine o_pure (p_loadE1 (i := ((sc.keys.length : Int) - 1).toNat) (T := tInt) (L := sc.keys) (v := .int .i64 (sc.keys[((sc.keys.length : Int) - 1).toNat])) rfl (rd_own (i := 1) rfl) (by first | assumption | omega) sh3 rfl) rfl rfl rfl ?_
            refine o_buildSlice (m := 1) (T := tInt) (L := [sc.keys[((sc.keys.length : Int) - 1).toNat]]) (vs := [.int .i64 (sc.keys[((sc.keys.length : Int) - 1).toNat])]) rfl rfl rfl rfl Try.underlying52 sz3 (by decide) ze3 rfl (by decide) rfl (fun S183 a184 => ?_)
            refine o_append (i := 1) (L := less_) (M := [sc.keys[((sc.keys.length : Int) - 1).toNat]]) (T := tInt) rfl rfl rfl (rd_own (i := 0) rfl) Try.underlying52 Try.underlying52 (by intro k h; cases h) el3 (by intro z; simp [tInt, one1]) (by decide) (by first | omega | (simp only [List.length_cons, List.length_nil]; omega) | (simp only [List.length_append, List.length_cons, List.length_nil, List.length_take, List.length_drop]; omega)) rfl (fun a186 c187 S188 => ?_)
            refine o_pure (p_assign (v := .slice a186 (less_ ++ [sc.keys[((sc.keys.length : Int) - 1).toNat]]).length c187) rfl) rfl rfl rfl ?_
            refine o_nil ?_
            refine q_then ?_
            refine c_region ?_
            refine o_pure (p_fieldAddr (B := B25) (j := 0) (j' := 1) rfl fo72_1 rfl) rfl rfl rfl ?_
            refine o_pure (p_load (i := 4) (v := .slice asc_0 sc.keys.length csc_0) rfl rfl sh52 rfl) rfl rfl rfl ?_
            refine o_pure (p_move (v := .int .i64 ((sc.keys.length : Int) - 1)) rfl) rfl rfl rfl ?_
            refine o_pure (p_sliceH (L := sc.keys) (T := tInt) (h := ((sc.keys.length : Int) - 1)) rfl rfl Try.underlying52 sz3 (by omega) (by omega) (rd_own (i := 2) rfl)) rfl rfl rfl ?_
            refine o_pure (p_fieldAddr (B := B25) (j := 0) (j' := 1) rfl fo72_1 rfl) rfl rfl rfl ?_
            refine o_shrinkC (i := 2) (hi := ((sc.keys.length : Int) - 1).toNat) (T := tInt) rfl (by omega) ?_
            refine o_store (i := 4) (v := .slice asc_0 (sc.keys.take (((sc.keys.length : Int) - 1).toNat)).length csc_0) (cs' := [.int .i64 sc.room, .slice asc_0 (sc.keys.take (((sc.keys.length : Int) - 1).toNat)).length csc_0]) rfl rfl rfl sz52 rfl rfl rfl ?_
            refine o_nil ?_
            refine q_block_normal ?_
            refine q_round hK181 ((less_ ++ [sc.keys[((sc.keys.length : Int) - 1).toNat]]), a186, c187, S188, (⟨sc.room, (sc.keys.take (((sc.keys.length : Int) - 1).toNat))⟩ : DCache), asc_0, csc_0, Ssc_0) ?_ ?_ ?_ ?_
            · clear hK181
              exact hI.next (by omega) (by omega)
            · (try dsimp only); simp only [List.length_take]; omega
            · exact Sub.cons rfl (Sub.cons rfl (Sub.cons rfl (Sub.cons rfl (Sub.cons rfl (Sub.cons rfl (Sub.cons rfl (Sub.cons rfl (Sub.cons rfl (Sub.cons rfl (Sub.cons rfl (Sub.cons rfl (Sub.cons rfl (Sub.cons rfl (Sub.cons rfl (Sub.cons rfl (Sub.cons rfl (Sub.cons rfl (Sub.cons rfl (Sub.cons rfl (Sub.cons rfl (Sub.cons rfl (Sub.cons rfl (Sub.cons rfl (Sub.nil _))))))))))))))))))))))))
            · exact fun _ hw => HeapIs.pick hw [1, 2, 3, 4, 5, 6, 7, 8, 9, 10, 11, 12, 13, 14] (by decide) rfl
          · simp only [decide_eq_false_iff_not, Int.not_lt] at hc182
            refine c_exit ?_
            refine q_then_exit (q_then_exit (q_block_exit (q_then ?_)))
            refine c_seq ?_
            refine c_region ?_
            refine o_call0 (v := .bool true) rfl (lruBegun_ok ) hf57 (fun _ _ => trivial) rfl ?_
            refine o_pure (p_move (v := .bool true) rfl) rfl rfl rfl ?_
            refine o_unguard 118 rfl rfl ?_
            refine o_pure (p_load_agg (i := 12) (vs := [.int .i64 c.room, .slice ac_0 c.keys.length cc_0]) rfl rfl sh72 rfl rfl) rfl rfl rfl ?_
            refine o_unguard 118 rfl rfl ?_
            refine o_call0 (v := .int .i64 (Lru.check c)) rfl (lcheck_ok c ac_0 cc_0) hf58 (fun w hw => (rd_base (i := 13) rfl hc_0) w hw) rfl ?_
            refine o_unguard 118 rfl rfl ?_
            refine o_pure (p_move (v := .int .i64 (Lru.check c)) rfl) rfl rfl rfl ?_
            refine o_unguard 118 rfl rfl ?_
            refine o_pure (p_eq (p := (Lru.check c)) (q := (Lru.check c)) rfl rfl) rfl rfl rfl ?_
            refine o_pure (p_pick_true (u := .bool ((Lru.check c) == (Lru.check c))) rfl rfl) rfl rfl rfl ?_
            refine o_pure (p_move (v := .bool ((Lru.check c) == (Lru.check c))) rfl) rfl rfl rfl ?_
            refine o_and (p := 130) 6 ((Lru.trace l) == (Lru.trace l)) ?_ ?_ ?_
            · intro hb189 hk
              simp only [beq_iff_eq] at hb189
              refine o_unguard 124 rfl rfl ?_
              refine o_pure (p_move (v := .slice al l.length cl) rfl) rfl rfl rfl ?_
              refine o_unguard 124 rfl rfl ?_
              refine o_call0 (v := .int .i64 (Lru.trace l)) rfl (checkTrace_ok l al cl) hf59 (fun w hw => (rd_base (i := 13) rfl hl) w hw) rfl ?_
              refine o_unguard 124 rfl rfl ?_
              refine o_pure (p_move (v := .slice al l.length cl) rfl) rfl rfl rfl ?_
              refine o_unguard 124 rfl rfl ?_
              refine o_call0 (v := .int .i64 (Lru.trace l)) rfl (traceCheck_ok l al cl) hf44 (fun w hw => (rd_base (i := 13) rfl hl) w hw) rfl ?_
              refine o_unguard 124 rfl rfl ?_
              refine o_pure (p_eq (p := (Lru.trace l)) (q := (Lru.trace l)) rfl rfl) rfl rfl rfl ?_
              refine o_pure (p_pick_true (u := .bool ((Lru.trace l) == (Lru.trace l))) rfl rfl) rfl rfl rfl ?_
              exact o_sub (Sub.cons rfl (Sub.skip rfl (Sub.skip rfl (Sub.skip rfl (Sub.skip rfl (Sub.skip rfl (Sub.skip rfl (Sub.skip rfl (Sub.refl _))))))))) hk
            · intro hb189 hk
              refine o_guard_no rfl 124 rfl rfl rfl rfl rfl ?_
              refine o_guard_no rfl 124 rfl rfl rfl rfl rfl ?_
              refine o_guard_no rfl 124 rfl rfl rfl rfl rfl ?_
              refine o_guard_no rfl 124 rfl rfl rfl rfl rfl ?_
              refine o_guard_no rfl 124 rfl rfl rfl rfl rfl ?_
              refine o_pure (p_pick_false (v := .bool false) rfl rfl) rfl rfl rfl ?_
              exact o_sub (Sub.cons rfl (Sub.skip rfl (Sub.skip rfl (Sub.skip rfl (Sub.skip rfl (Sub.skip rfl (Sub.skip rfl (Sub.skip rfl (Sub.refl _))))))))) hk
            refine o_pure (p_move (v := .bool (((Lru.check c) == (Lru.check c)) && ((Lru.trace l) == (Lru.trace l)))) rfl) rfl rfl rfl ?_
            refine o_and (p := 135) 4 (decide (((Lru.access c key).1) = ((Lru.touch c key).1))) ?_ ?_ ?_
            · intro hb190 hk
              simp only [Bool.and_eq_true, beq_iff_eq] at hb190
              refine o_unguard 131 rfl rfl ?_
              refine o_pure (p_load_agg (i := 10) (vs := [.int .i64 (((Lru.access c key).1).room), .slice a4 (((Lru.access c key).1).keys).length c5]) rfl rfl sh72 rfl rfl) rfl rfl rfl ?_
              refine o_unguard 131 rfl rfl ?_
              refine o_pure (p_load_agg (i := 5) (vs := [.int .i64 (((Lru.touch c key).1).room), .slice a114 (((Lru.touch c key).1).keys).length c115]) rfl rfl sh72 rfl rfl) rfl rfl rfl ?_
              refine o_unguard 131 rfl rfl ?_
              refine o_call0 (v := .bool (decide (((Lru.access c key).1) = ((Lru.touch c key).1)))) rfl (sameCache_ok ((Lru.access c key).1) a4 c5 ((Lru.touch c key).1) a114 c115) hf60 (fun w hw => ⟨(rd_own (i := 11) rfl) w hw, (rd_own (i := 2) rfl) w hw⟩) rfl ?_
              refine o_pure (p_pick_true (u := .bool (decide (((Lru.access c key).1) = ((Lru.touch c key).1)))) rfl rfl) rfl rfl rfl ?_
              exact o_sub (Sub.cons rfl (Sub.skip rfl (Sub.skip rfl (Sub.skip rfl (Sub.skip rfl (Sub.skip rfl (Sub.refl _))))))) hk
            · intro hb190 hk
              refine o_guard_no rfl 131 rfl rfl rfl rfl rfl ?_
              refine o_guard_no rfl 131 rfl rfl rfl rfl rfl ?_
              refine o_guard_no rfl 131 rfl rfl rfl rfl rfl ?_
              refine o_pure (p_pick_false (v := .bool false) rfl rfl) rfl rfl rfl ?_
              exact o_sub (Sub.cons rfl (Sub.skip rfl (Sub.skip rfl (Sub.skip rfl (Sub.skip rfl (Sub.skip rfl (Sub.refl _))))))) hk
            refine o_pure (p_move (v := .bool ((((Lru.check c) == (Lru.check c)) && ((Lru.trace l) == (Lru.trace l))) && (decide (((Lru.access c key).1) = ((Lru.touch c key).1))))) rfl) rfl rfl rfl ?_
            refine o_and (p := 140) 4 (((Lru.access c key).2.1) == ((Lru.touch c key).2.1)) ?_ ?_ ?_
            · intro hb191 hk
              simp only [Bool.and_eq_true, beq_iff_eq, decide_eq_true_eq] at hb191
              refine o_unguard 136 rfl rfl ?_
              refine o_pure (p_move (v := .bool ((Lru.access c key).2.1)) rfl) rfl rfl rfl ?_
              refine o_unguard 136 rfl rfl ?_
              refine o_pure (p_move (v := .bool ((Lru.touch c key).2.1)) rfl) rfl rfl rfl ?_
              refine o_unguard 136 rfl rfl ?_
              refine o_pure (p_eqBool (b := ((Lru.access c key).2.1)) (c := ((Lru.touch c key).2.1)) rfl rfl Try.underlying4) rfl rfl rfl ?_
              refine o_pure (p_pick_true (u := .bool (((Lru.access c key).2.1) == ((Lru.touch c key).2.1))) rfl rfl) rfl rfl rfl ?_
              exact o_sub (Sub.cons rfl (Sub.skip rfl (Sub.skip rfl (Sub.skip rfl (Sub.skip rfl (Sub.skip rfl (Sub.refl _))))))) hk
            · intro hb191 hk
              refine o_guard_no rfl 136 rfl rfl rfl rfl rfl ?_
              refine o_guard_no rfl 136 rfl rfl rfl rfl rfl ?_
              refine o_guard_no rfl 136 rfl rfl rfl rfl rfl ?_
              refine o_pure (p_pick_false (v := .bool false) rfl rfl) rfl rfl rfl ?_
              exact o_sub (Sub.cons rfl (Sub.skip rfl (Sub.skip rfl (Sub.skip rfl (Sub.skip rfl (Sub.skip rfl (Sub.refl _))))))) hk
            refine o_pure (p_move (v := .bool (((((Lru.check c) == (Lru.check c)) && ((Lru.trace l) == (Lru.trace l))) && (decide (((Lru.access c key).1) = ((Lru.touch c key).1)))) && (((Lru.access c key).2.1) == ((Lru.touch c key).2.1)))) rfl) rfl rfl rfl ?_
            refine o_and (p := 145) 4 (((Lru.access c key).2.2) == ((Lru.touch c key).2.2)) ?_ ?_ ?_
            · intro hb192 hk
              simp only [Bool.and_eq_true, beq_iff_eq, decide_eq_true_eq] at hb192
              refine o_unguard 141 rfl rfl ?_
              refine o_pure (p_move (v := .int .i64 ((Lru.access c key).2.2)) rfl) rfl rfl rfl ?_
              refine o_unguard 141 rfl rfl ?_
              refine o_pure (p_move (v := .int .i64 ((Lru.touch c key).2.2)) rfl) rfl rfl rfl ?_
              refine o_unguard 141 rfl rfl ?_
              refine o_pure (p_eq (p := ((Lru.access c key).2.2)) (q := ((Lru.touch c key).2.2)) rfl rfl) rfl rfl rfl ?_
              refine o_pure (p_pick_true (u := .bool (((Lru.access c key).2.2) == ((Lru.touch c key).2.2))) rfl rfl) rfl rfl rfl ?_
              exact o_sub (Sub.cons rfl (Sub.skip rfl (Sub.skip rfl (Sub.skip rfl (Sub.skip rfl (Sub.skip rfl (Sub.refl _))))))) hk
            · intro hb192 hk
              refine o_guard_no rfl 141 rfl rfl rfl rfl rfl ?_
              refine o_guard_no rfl 141 rfl rfl rfl rfl rfl ?_
              refine o_guard_no rfl 141 rfl rfl rfl rfl rfl ?_
              refine o_pure (p_pick_false (v := .bool false) rfl rfl) rfl rfl rfl ?_
              exact o_sub (Sub.cons rfl (Sub.skip rfl (Sub.skip rfl (Sub.skip rfl (Sub.skip rfl (Sub.skip rfl (Sub.refl _))))))) hk
            refine o_pure (p_move (v := .bool ((((((Lru.check c) == (Lru.check c)) && ((Lru.trace l) == (Lru.trace l))) && (decide (((Lru.access c key).1) = ((Lru.touch c key).1)))) && (((Lru.access c key).2.1) == ((Lru.touch c key).2.1))) && (((Lru.access c key).2.2) == ((Lru.touch c key).2.2)))) rfl) rfl rfl rfl ?_
            refine o_and (p := 150) 4 ((Lru.accessErr c key) == (Lru.check c)) ?_ ?_ ?_
            · intro hb193 hk
              simp only [Bool.and_eq_true, beq_iff_eq, decide_eq_true_eq] at hb193
              refine o_unguard 146 rfl rfl ?_
              refine o_pure (p_move (v := .int .i64 (Lru.accessErr c key)) rfl) rfl rfl rfl ?_
              refine o_unguard 146 rfl rfl ?_
              refine o_pure (p_move (v := .int .i64 (Lru.check c)) rfl) rfl rfl rfl ?_
              refine o_unguard 146 rfl rfl ?_
              refine o_pure (p_eq (p := (Lru.accessErr c key)) (q := (Lru.check c)) rfl rfl) rfl rfl rfl ?_
              refine o_pure (p_pick_true (u := .bool ((Lru.accessErr c key) == (Lru.check c))) rfl rfl) rfl rfl rfl ?_
              exact o_sub (Sub.cons rfl (Sub.skip rfl (Sub.skip rfl (Sub.skip rfl (Sub.skip rfl (Sub.skip rfl (Sub.refl _))))))) hk
            · intro hb193 hk
              refine o_guard_no rfl 146 rfl rfl rfl rfl rfl ?_
              refine o_guard_no rfl 146 rfl rfl rfl rfl rfl ?_
              refine o_guard_no rfl 146 rfl rfl rfl rfl rfl ?_
              refine o_pure (p_pick_false (v := .bool false) rfl rfl) rfl rfl rfl ?_
              exact o_sub (Sub.cons rfl (Sub.skip rfl (Sub.skip rfl (Sub.skip rfl (Sub.skip rfl (Sub.skip rfl (Sub.refl _))))))) hk
            refine o_pure (p_move (v := .bool (((((((Lru.check c) == (Lru.check c)) && ((Lru.trace l) == (Lru.trace l))) && (decide (((Lru.access c key).1) = ((Lru.touch c key).1)))) && (((Lru.access c key).2.1) == ((Lru.touch c key).2.1))) && (((Lru.access c key).2.2) == ((Lru.touch c key).2.2))) && ((Lru.accessErr c key) == (Lru.check c)))) rfl) rfl rfl rfl ?_
            refine o_and (p := 155) 4 (decide (((Lru.run c l).1) = (⟨0, []⟩ : DCache))) ?_ ?_ ?_
            · intro hb194 hk
              simp only [Bool.and_eq_true, beq_iff_eq, decide_eq_true_eq] at hb194
              refine o_unguard 151 rfl rfl ?_
              refine o_pure (p_load_agg (i := 8) (vs := [.int .i64 (((Lru.run c l).1).room), .slice a10 (((Lru.run c l).1).keys).length c11]) rfl rfl sh72 rfl rfl) rfl rfl rfl ?_
              refine o_unguard 151 rfl rfl ?_
              refine o_pure (p_load_agg (i := 4) (vs := [.int .i64 0, .slice none 0 0]) rfl rfl sh72 rfl rfl) rfl rfl rfl ?_
              refine o_unguard 151 rfl rfl ?_
              refine o_call0 (v := .bool (decide (((Lru.run c l).1) = (⟨0, []⟩ : DCache)))) rfl (sameCache_ok ((Lru.run c l).1) a10 c11 (⟨0, []⟩ : DCache) none 0) hf60 (fun w hw => ⟨(rd_own (i := 9) rfl) w hw, rd_nil w hw⟩) rfl ?_
              refine o_pure (p_pick_true (u := .bool (decide (((Lru.run c l).1) = (⟨0, []⟩ : DCache)))) rfl rfl) rfl rfl rfl ?_
              exact o_sub (Sub.cons rfl (Sub.skip rfl (Sub.skip rfl (Sub.skip rfl (Sub.skip rfl (Sub.skip rfl (Sub.refl _))))))) hk
            · intro hb194 hk
              refine o_guard_no rfl 151 rfl rfl rfl rfl rfl ?_
              refine o_guard_no rfl 151 rfl rfl rfl rfl rfl ?_
              refine o_guard_no rfl 151 rfl rfl rfl rfl rfl ?_
              refine o_pure (p_pick_false (v := .bool false) rfl rfl) rfl rfl rfl ?_
              exact o_sub (Sub.cons rfl (Sub.skip rfl (Sub.skip rfl (Sub.skip rfl (Sub.skip rfl (Sub.skip rfl (Sub.refl _))))))) hk
            refine o_pure (p_move (v := .bool ((((((((Lru.check c) == (Lru.check c)) && ((Lru.trace l) == (Lru.trace l))) && (decide (((Lru.access c key).1) = ((Lru.touch c key).1)))) && (((Lru.access c key).2.1) == ((Lru.touch c key).2.1))) && (((Lru.access c key).2.2) == ((Lru.touch c key).2.2))) && ((Lru.accessErr c key) == (Lru.check c))) && (decide (((Lru.run c l).1) = (⟨0, []⟩ : DCache))))) rfl) rfl rfl rfl ?_
            refine o_and (p := 160) 4 (((Lru.run c l).2) == 0) ?_ ?_ ?_
            · intro hb195 hk
              simp only [Bool.and_eq_true, beq_iff_eq, decide_eq_true_eq] at hb195
              refine o_unguard 156 rfl rfl ?_
              refine o_pure (p_move (v := .int .i64 ((Lru.run c l).2)) rfl) rfl rfl rfl ?_
              refine o_unguard 156 rfl rfl ?_
              refine o_pure (p_move (v := .int .i64 0) rfl) rfl rfl rfl ?_
              refine o_unguard 156 rfl rfl ?_
              refine o_pure (p_eq (p := ((Lru.run c l).2)) (q := 0) rfl rfl) rfl rfl rfl ?_
              refine o_pure (p_pick_true (u := .bool (((Lru.run c l).2) == 0)) rfl rfl) rfl rfl rfl ?_
              exact o_sub (Sub.cons rfl (Sub.skip rfl (Sub.skip rfl (Sub.skip rfl (Sub.skip rfl (Sub.skip rfl (Sub.refl _))))))) hk
            · intro hb195 hk
              refine o_guard_no rfl 156 rfl rfl rfl rfl rfl ?_
              refine o_guard_no rfl 156 rfl rfl rfl rfl rfl ?_
              refine o_guard_no rfl 156 rfl rfl rfl rfl rfl ?_
              refine o_pure (p_pick_false (v := .bool false) rfl rfl) rfl rfl rfl ?_
              exact o_sub (Sub.cons rfl (Sub.skip rfl (Sub.skip rfl (Sub.skip rfl (Sub.skip rfl (Sub.skip rfl (Sub.refl _))))))) hk
            refine o_pure (p_move (v := .bool (((((((((Lru.check c) == (Lru.check c)) && ((Lru.trace l) == (Lru.trace l))) && (decide (((Lru.access c key).1) = ((Lru.touch c key).1)))) && (((Lru.access c key).2.1) == ((Lru.touch c key).2.1))) && (((Lru.access c key).2.2) == ((Lru.touch c key).2.2))) && ((Lru.accessErr c key) == (Lru.check c))) && (decide (((Lru.run c l).1) = (⟨0, []⟩ : DCache)))) && (((Lru.run c l).2) == 0))) rfl) rfl rfl rfl ?_
            refine o_and (p := 165) 4 ((Lru.runErr c l) == (Lru.trace l)) ?_ ?_ ?_
            · intro hb196 hk
              simp only [Bool.and_eq_true, beq_iff_eq, decide_eq_true_eq] at hb196
              refine o_unguard 161 rfl rfl ?_
              refine o_pure (p_move (v := .int .i64 (Lru.runErr c l)) rfl) rfl rfl rfl ?_
              refine o_unguard 161 rfl rfl ?_
              refine o_pure (p_move (v := .int .i64 (Lru.trace l)) rfl) rfl rfl rfl ?_
              refine o_unguard 161 rfl rfl ?_
              refine o_pure (p_eq (p := (Lru.runErr c l)) (q := (Lru.trace l)) rfl rfl) rfl rfl rfl ?_
              refine o_pure (p_pick_true (u := .bool ((Lru.runErr c l) == (Lru.trace l))) rfl rfl) rfl rfl rfl ?_
              exact o_sub (Sub.cons rfl (Sub.skip rfl (Sub.skip rfl (Sub.skip rfl (Sub.skip rfl (Sub.skip rfl (Sub.refl _))))))) hk
            · intro hb196 hk
              refine o_guard_no rfl 161 rfl rfl rfl rfl rfl ?_
              refine o_guard_no rfl 161 rfl rfl rfl rfl rfl ?_
              refine o_guard_no rfl 161 rfl rfl rfl rfl rfl ?_
              refine o_pure (p_pick_false (v := .bool false) rfl rfl) rfl rfl rfl ?_
              exact o_sub (Sub.cons rfl (Sub.skip rfl (Sub.skip rfl (Sub.skip rfl (Sub.skip rfl (Sub.skip rfl (Sub.refl _))))))) hk
            refine o_pure (p_move (v := .bool ((((((((((Lru.check c) == (Lru.check c)) && ((Lru.trace l) == (Lru.trace l))) && (decide (((Lru.access c key).1) = ((Lru.touch c key).1)))) && (((Lru.access c key).2.1) == ((Lru.touch c key).2.1))) && (((Lru.access c key).2.2) == ((Lru.touch c key).2.2))) && ((Lru.accessErr c key) == (Lru.check c))) && (decide (((Lru.run c l).1) = (⟨0, []⟩ : DCache)))) && (((Lru.run c l).2) == 0)) && ((Lru.runErr c l) == (Lru.trace l)))) rfl) rfl rfl rfl ?_
            refine o_and (p := 170) 4 (decide (((Lru.resize c room).1) = sc)) ?_ ?_ ?_
            · intro hb197 hk
              simp only [Bool.and_eq_true, beq_iff_eq, decide_eq_true_eq] at hb197
              refine o_unguard 166 rfl rfl ?_
              refine o_pure (p_load_agg (i := 6) (vs := [.int .i64 (((Lru.resize c room).1).room), .slice a16 (((Lru.resize c room).1).keys).length c17]) rfl rfl sh72 rfl rfl) rfl rfl rfl ?_
              refine o_unguard 166 rfl rfl ?_
              refine o_pure (p_load_agg (i := 3) (vs := [.int .i64 sc.room, .slice asc_0 sc.keys.length csc_0]) rfl rfl sh72 rfl rfl) rfl rfl rfl ?_
              refine o_unguard 166 rfl rfl ?_
              refine o_call0 (v := .bool (decide (((Lru.resize c room).1) = sc))) rfl (sameCache_ok ((Lru.resize c room).1) a16 c17 sc asc_0 csc_0) hf60 (fun w hw => ⟨(rd_ent (i := 7) rfl (fun w h => h.1)) w hw, (rd_own (i := 1) rfl) w hw⟩) rfl ?_
              refine o_pure (p_pick_true (u := .bool (decide (((Lru.resize c room).1) = sc))) rfl rfl) rfl rfl rfl ?_
              exact o_sub (Sub.cons rfl (Sub.skip rfl (Sub.skip rfl (Sub.skip rfl (Sub.skip rfl (Sub.skip rfl (Sub.refl _))))))) hk
            · intro hb197 hk
              refine o_guard_no rfl 166 rfl rfl rfl rfl rfl ?_
              refine o_guard_no rfl 166 rfl rfl rfl rfl rfl ?_
              refine o_guard_no rfl 166 rfl rfl rfl rfl rfl ?_
              refine o_pure (p_pick_false (v := .bool false) rfl rfl) rfl rfl rfl ?_
              exact o_sub (Sub.cons rfl (Sub.skip rfl (Sub.skip rfl (Sub.skip rfl (Sub.skip rfl (Sub.skip rfl (Sub.refl _))))))) hk
            refine o_pure (p_move (v := .bool (((((((((((Lru.check c) == (Lru.check c)) && ((Lru.trace l) == (Lru.trace l))) && (decide (((Lru.access c key).1) = ((Lru.touch c key).1)))) && (((Lru.access c key).2.1) == ((Lru.touch c key).2.1))) && (((Lru.access c key).2.2) == ((Lru.touch c key).2.2))) && ((Lru.accessErr c key) == (Lru.check c))) && (decide (((Lru.run c l).1) = (⟨0, []⟩ : DCache)))) && (((Lru.run c l).2) == 0)) && ((Lru.runErr c l) == (Lru.trace l))) && (decide (((Lru.resize c room).1) = sc)))) rfl) rfl rfl rfl ?_
            refine o_and (p := 175) 4 (Ref.sameInts ((Lru.resize c room).2) less_) ?_ ?_ ?_
            · intro hb198 hk
              simp only [Bool.and_eq_true, beq_iff_eq, decide_eq_true_eq] at hb198
              refine o_unguard 171 rfl rfl ?_
              refine o_pure (p_move (v := .slice a18 ((Lru.resize c room).2).length c19) rfl) rfl rfl rfl ?_
              refine o_unguard 171 rfl rfl ?_
              refine o_pure (p_move (v := .slice aless_ less_.length cless_) rfl) rfl rfl rfl ?_
              refine o_unguard 171 rfl rfl ?_
              refine o_call0 (v := .bool (Ref.sameInts ((Lru.resize c room).2) less_)) rfl (sameInts_ok ((Lru.resize c room).2) a18 c19 less_ aless_ cless_) hf47 (fun w hw => ⟨(rd_ent (i := 7) rfl (fun w h => h.2)) w hw, (rd_own (i := 0) rfl) w hw⟩) rfl ?_
              refine o_pure (p_pick_true (u := .bool (Ref.sameInts ((Lru.resize c room).2) less_)) rfl rfl) rfl rfl rfl ?_
              exact o_sub (Sub.cons rfl (Sub.skip rfl (Sub.skip rfl (Sub.skip rfl (Sub.skip rfl (Sub.skip rfl (Sub.refl _))))))) hk
            · intro hb198 hk
              refine o_guard_no rfl 171 rfl rfl rfl rfl rfl ?_
              refine o_guard_no rfl 171 rfl rfl rfl rfl rfl ?_
              refine o_guard_no rfl 171 rfl rfl rfl rfl rfl ?_
              refine o_pure (p_pick_false (v := .bool false) rfl rfl) rfl rfl rfl ?_
              exact o_sub (Sub.cons rfl (Sub.skip rfl (Sub.skip rfl (Sub.skip rfl (Sub.skip rfl (Sub.skip rfl (Sub.refl _))))))) hk
            refine o_pure (p_move (v := .bool ((((((((((((Lru.check c) == (Lru.check c)) && ((Lru.trace l) == (Lru.trace l))) && (decide (((Lru.access c key).1) = ((Lru.touch c key).1)))) && (((Lru.access c key).2.1) == ((Lru.touch c key).2.1))) && (((Lru.access c key).2.2) == ((Lru.touch c key).2.2))) && ((Lru.accessErr c key) == (Lru.check c))) && (decide (((Lru.run c l).1) = (⟨0, []⟩ : DCache)))) && (((Lru.run c l).2) == 0)) && ((Lru.runErr c l) == (Lru.trace l))) && (decide (((Lru.resize c room).1) = sc))) && (Ref.sameInts ((Lru.resize c room).2) less_))) rfl) rfl rfl rfl ?_
            refine o_and (p := 180) 4 ((Lru.sizeErr c room) == (Lru.check c)) ?_ ?_ ?_
            · intro hb199 hk
              simp only [Bool.and_eq_true, beq_iff_eq, decide_eq_true_eq] at hb199
              refine o_unguard 176 rfl rfl ?_
              refine o_pure (p_move (v := .int .i64 (Lru.sizeErr c room)) rfl) rfl rfl rfl ?_
              refine o_unguard 176 rfl rfl ?_
              refine o_pure (p_move (v := .int .i64 (Lru.check c)) rfl) rfl rfl rfl ?_
              refine o_unguard 176 rfl rfl ?_
              refine o_pure (p_eq (p := (Lru.sizeErr c room)) (q := (Lru.check c)) rfl rfl) rfl rfl rfl ?_
              refine o_pure (p_pick_true (u := .bool ((Lru.sizeErr c room) == (Lru.check c))) rfl rfl) rfl rfl rfl ?_
              exact o_sub (Sub.cons rfl (Sub.skip rfl (Sub.skip rfl (Sub.skip rfl (Sub.skip rfl (Sub.skip rfl (Sub.refl _))))))) hk
            · intro hb199 hk
              refine o_guard_no rfl 176 rfl rfl rfl rfl rfl ?_
              refine o_guard_no rfl 176 rfl rfl rfl rfl rfl ?_
              refine o_guard_no rfl 176 rfl rfl rfl rfl rfl ?_
              refine o_pure (p_pick_false (v := .bool false) rfl rfl) rfl rfl rfl ?_
              exact o_sub (Sub.cons rfl (Sub.skip rfl (Sub.skip rfl (Sub.skip rfl (Sub.skip rfl (Sub.skip rfl (Sub.refl _))))))) hk
            refine o_pure (p_assign (v := .bool (((((((((((((Lru.check c) == (Lru.check c)) && ((Lru.trace l) == (Lru.trace l))) && (decide (((Lru.access c key).1) = ((Lru.touch c key).1)))) && (((Lru.access c key).2.1) == ((Lru.touch c key).2.1))) && (((Lru.access c key).2.2) == ((Lru.touch c key).2.2))) && ((Lru.accessErr c key) == (Lru.check c))) && (decide (((Lru.run c l).1) = (⟨0, []⟩ : DCache)))) && (((Lru.run c l).2) == 0)) && ((Lru.runErr c l) == (Lru.trace l))) && (decide (((Lru.resize c room).1) = sc))) && (Ref.sameInts ((Lru.resize c room).2) less_)) && ((Lru.sizeErr c room) == (Lru.check c)))) rfl) rfl rfl rfl ?_
            refine o_nil ?_
            refine q_then ?_
            refine c_ret ?_
            have hr0 : ((((((((((((((Lru.check c) == (Lru.check c)) && ((Lru.trace l) == (Lru.trace l))) && (decide (((Lru.access c key).1) = ((Lru.touch c key).1)))) && (((Lru.access c key).2.1) == ((Lru.touch c key).2.1))) && (((Lru.access c key).2.2) == ((Lru.touch c key).2.2))) && ((Lru.accessErr c key) == (Lru.check c))) && (decide (((Lru.run c l).1) = (⟨0, []⟩ : DCache)))) && (((Lru.run c l).2) == 0)) && ((Lru.runErr c l) == (Lru.trace l))) && (decide (((Lru.resize c room).1) = sc))) && (Ref.sameInts ((Lru.resize c room).2) less_)) && ((Lru.sizeErr c room) == (Lru.check c))) : Bool) = true := by
              rcases Lru.acc_num c key with ⟨a0, a1, a2⟩ | ⟨a0, a3, a1, a2⟩ | ⟨a0, a3, a1, a2⟩ <;> rcases Lru.run_cases c l with ⟨b0, b1, b2⟩ | ⟨b0, b3, b1, b2⟩ | ⟨b0, b3, b1, b2⟩ <;> rcases Lru.size_num c room with ⟨s0, s1, s2⟩ | ⟨s0, s3, s1, s2⟩ | ⟨s0, s3, s1, s2⟩ <;> first | (exfalso; omega) | (rw [a1, a2, b1, b2, s1, s2]; first | (simp [Lru.zero, Ref.sameInts, a0]; done) | (simp [Lru.zero, Ref.sameInts, a0, b3]; done) | (obtain ⟨hz1, hz2⟩ := hI.done (by omega); rw [hz1, hz2]; first | (simp [Lru.zero, Ref.sameInts, a0]; done) | (simp [Lru.zero, Ref.sameInts, a0, b3]; done)))
            refine q_end0 (v := .bool (((((((((((((Lru.check c) == (Lru.check c)) && ((Lru.trace l) == (Lru.trace l))) && (decide (((Lru.access c key).1) = ((Lru.touch c key).1)))) && (((Lru.access c key).2.1) == ((Lru.touch c key).2.1))) && (((Lru.access c key).2.2) == ((Lru.touch c key).2.2))) && ((Lru.accessErr c key) == (Lru.check c))) && (decide (((Lru.run c l).1) = (⟨0, []⟩ : DCache)))) && (((Lru.run c l).2) == 0)) && ((Lru.runErr c l) == (Lru.trace l))) && (decide (((Lru.resize c room).1) = sc))) && (Ref.sameInts ((Lru.resize c room).2) less_)) && ((Lru.sizeErr c room) == (Lru.check c)))) (rt1 rfl (r_tmp rfl)) (i := 13) rfl ?_
            exact (by have hcc := congrArg (fun (y0 : Bool) => (.bool y0 : Value)) hr0; exact hcc)
  · simp only [beq_eq_false_iff_ne, ne_eq] at hc26
    refine c_skip ?_
    refine q_then ?_
    refine c_seq ?_
    refine c_region ?_
    refine o_call0 (v := .bool true) rfl (lruBegun_ok ) hf57 (fun _ _ => trivial) rfl ?_
    refine o_pure (p_move (v := .bool true) rfl) rfl rfl rfl ?_
    refine o_unguard 118 rfl rfl ?_
    refine o_pure (p_load_agg (i := 9) (vs := [.int .i64 c.room, .slice ac_0 c.keys.length cc_0]) rfl rfl sh72 rfl rfl) rfl rfl rfl ?_
    refine o_unguard 118 rfl rfl ?_
    refine o_call0 (v := .int .i64 (Lru.check c)) rfl (lcheck_ok c ac_0 cc_0) hf58 (fun w hw => (rd_base (i := 10) rfl hc_0) w hw) rfl ?_
    refine o_unguard 118 rfl rfl ?_
    refine o_pure (p_move (v := .int .i64 (Lru.check c)) rfl) rfl rfl rfl ?_
    refine o_unguard 118 rfl rfl ?_
    refine o_pure (p_eq (p := (Lru.check c)) (q := (Lru.check c)) rfl rfl) rfl rfl rfl ?_
    refine o_pure (p_pick_true (u := .bool ((Lru.check c) == (Lru.check c))) rfl rfl) rfl rfl rfl ?_
    refine o_pure (p_move (v := .bool ((Lru.check c) == (Lru.check c))) rfl) rfl rfl rfl ?_
    refine o_and (p := 130) 6 ((Lru.trace l) == (Lru.trace l)) ?_ ?_ ?_
    · intro hb200 hk
      simp only [beq_iff_eq] at hb200
      refine o_unguard 124 rfl rfl ?_
      refine o_pure (p_move (v := .slice al l.length cl) rfl) rfl rfl rfl ?_
      refine o_unguard 124 rfl rfl ?_
      refine o_call0 (v := .int .i64 (Lru.trace l)) rfl (checkTrace_ok l al cl) hf59 (fun w hw => (rd_base (i := 10) rfl hl) w hw) rfl ?_
      refine o_unguard 124 rfl rfl ?_
      refine o_pure (p_move (v := .slice al l.length cl) rfl) rfl rfl rfl ?_
      refine o_unguard 124 rfl rfl ?_
      refine o_call0 (v := .int .i64 (Lru.trace l)) rfl (traceCheck_ok l al cl) hf44 (fun w hw => (rd_base (i := 10) rfl hl) w hw) rfl ?_
      refine o_unguard 124 rfl rfl ?_
      refine o_pure (p_eq (p := (Lru.trace l)) (q := (Lru.trace l)) rfl rfl) rfl rfl rfl ?_
      refine o_pure (p_pick_true (u := .bool ((Lru.trace l) == (Lru.trace l))) rfl rfl) rfl rfl rfl ?_
      exact o_sub (Sub.cons rfl (Sub.skip rfl (Sub.skip rfl (Sub.skip rfl (Sub.skip rfl (Sub.skip rfl (Sub.skip rfl (Sub.skip rfl (Sub.refl _))))))))) hk
    · intro hb200 hk
      refine o_guard_no rfl 124 rfl rfl rfl rfl rfl ?_
      refine o_guard_no rfl 124 rfl rfl rfl rfl rfl ?_
      refine o_guard_no rfl 124 rfl rfl rfl rfl rfl ?_
      refine o_guard_no rfl 124 rfl rfl rfl rfl rfl ?_
      refine o_guard_no rfl 124 rfl rfl rfl rfl rfl ?_
      refine o_pure (p_pick_false (v := .bool false) rfl rfl) rfl rfl rfl ?_
      exact o_sub (Sub.cons rfl (Sub.skip rfl (Sub.skip rfl (Sub.skip rfl (Sub.skip rfl (Sub.skip rfl (Sub.skip rfl (Sub.skip rfl (Sub.refl _))))))))) hk
    refine o_pure (p_move (v := .bool (((Lru.check c) == (Lru.check c)) && ((Lru.trace l) == (Lru.trace l)))) rfl) rfl rfl rfl ?_
    refine o_and (p := 135) 4 (decide (((Lru.access c key).1) = (⟨0, []⟩ : DCache))) ?_ ?_ ?_
    · intro hb201 hk
      simp only [Bool.and_eq_true, beq_iff_eq] at hb201
      refine o_unguard 131 rfl rfl ?_
      refine o_pure (p_load_agg (i := 7) (vs := [.int .i64 (((Lru.access c key).1).room), .slice a4 (((Lru.access c key).1).keys).length c5]) rfl rfl sh72 rfl rfl) rfl rfl rfl ?_
      refine o_unguard 131 rfl rfl ?_
      refine o_pure (p_load_agg (i := 2) (vs := [.int .i64 0, .slice none 0 0]) rfl rfl sh72 rfl rfl) rfl rfl rfl ?_
      refine o_unguard 131 rfl rfl ?_
      refine o_call0 (v := .bool (decide (((Lru.access c key).1) = (⟨0, []⟩ : DCache)))) rfl (sameCache_ok ((Lru.access c key).1) a4 c5 (⟨0, []⟩ : DCache) none 0) hf60 (fun w hw => ⟨(rd_own (i := 8) rfl) w hw, rd_nil w hw⟩) rfl ?_
      refine o_pure (p_pick_true (u := .bool (decide (((Lru.access c key).1) = (⟨0, []⟩ : DCache)))) rfl rfl) rfl rfl rfl ?_
      exact o_sub (Sub.cons rfl (Sub.skip rfl (Sub.skip rfl (Sub.skip rfl (Sub.skip rfl (Sub.skip rfl (Sub.refl _))))))) hk
    · intro hb201 hk
      refine o_guard_no rfl 131 rfl rfl rfl rfl rfl ?_
      refine o_guard_no rfl 131 rfl rfl rfl rfl rfl ?_
      refine o_guard_no rfl 131 rfl rfl rfl rfl rfl ?_
      refine o_pure (p_pick_false (v := .bool false) rfl rfl) rfl rfl rfl ?_
      exact o_sub (Sub.cons rfl (Sub.skip rfl (Sub.skip rfl (Sub.skip rfl (Sub.skip rfl (Sub.skip rfl (Sub.refl _))))))) hk
    refine o_pure (p_move (v := .bool ((((Lru.check c) == (Lru.check c)) && ((Lru.trace l) == (Lru.trace l))) && (decide (((Lru.access c key).1) = (⟨0, []⟩ : DCache))))) rfl) rfl rfl rfl ?_
    refine o_and (p := 140) 4 (((Lru.access c key).2.1) == false) ?_ ?_ ?_
    · intro hb202 hk
      simp only [Bool.and_eq_true, beq_iff_eq, decide_eq_true_eq] at hb202
      refine o_unguard 136 rfl rfl ?_
      refine o_pure (p_move (v := .bool ((Lru.access c key).2.1)) rfl) rfl rfl rfl ?_
      refine o_unguard 136 rfl rfl ?_
      refine o_pure (p_move (v := .bool false) rfl) rfl rfl rfl ?_
      refine o_unguard 136 rfl rfl ?_
      refine o_pure (p_eqBool (b := ((Lru.access c key).2.1)) (c := false) rfl rfl Try.underlying4) rfl rfl rfl ?_
      refine o_pure (p_pick_true (u := .bool (((Lru.access c key).2.1) == false)) rfl rfl) rfl rfl rfl ?_
      exact o_sub (Sub.cons rfl (Sub.skip rfl (Sub.skip rfl (Sub.skip rfl (Sub.skip rfl (Sub.skip rfl (Sub.refl _))))))) hk
    · intro hb202 hk
      refine o_guard_no rfl 136 rfl rfl rfl rfl rfl ?_
      refine o_guard_no rfl 136 rfl rfl rfl rfl rfl ?_
      refine o_guard_no rfl 136 rfl rfl rfl rfl rfl ?_
      refine o_pure (p_pick_false (v := .bool false) rfl rfl) rfl rfl rfl ?_
      exact o_sub (Sub.cons rfl (Sub.skip rfl (Sub.skip rfl (Sub.skip rfl (Sub.skip rfl (Sub.skip rfl (Sub.refl _))))))) hk
    refine o_pure (p_move (v := .bool (((((Lru.check c) == (Lru.check c)) && ((Lru.trace l) == (Lru.trace l))) && (decide (((Lru.access c key).1) = (⟨0, []⟩ : DCache)))) && (((Lru.access c key).2.1) == false))) rfl) rfl rfl rfl ?_
    refine o_and (p := 145) 4 (((Lru.access c key).2.2) == 0) ?_ ?_ ?_
    · intro hb203 hk
      simp only [Bool.and_eq_true, beq_iff_eq, decide_eq_true_eq] at hb203
      refine o_unguard 141 rfl rfl ?_
      refine o_pure (p_move (v := .int .i64 ((Lru.access c key).2.2)) rfl) rfl rfl rfl ?_
      refine o_unguard 141 rfl rfl ?_
      refine o_pure (p_move (v := .int .i64 0) rfl) rfl rfl rfl ?_
      refine o_unguard 141 rfl rfl ?_
      refine o_pure (p_eq (p := ((Lru.access c key).2.2)) (q := 0) rfl rfl) rfl rfl rfl ?_
      refine o_pure (p_pick_true (u := .bool (((Lru.access c key).2.2) == 0)) rfl rfl) rfl rfl rfl ?_
      exact o_sub (Sub.cons rfl (Sub.skip rfl (Sub.skip rfl (Sub.skip rfl (Sub.skip rfl (Sub.skip rfl (Sub.refl _))))))) hk
    · intro hb203 hk
      refine o_guard_no rfl 141 rfl rfl rfl rfl rfl ?_
      refine o_guard_no rfl 141 rfl rfl rfl rfl rfl ?_
      refine o_guard_no rfl 141 rfl rfl rfl rfl rfl ?_
      refine o_pure (p_pick_false (v := .bool false) rfl rfl) rfl rfl rfl ?_
      exact o_sub (Sub.cons rfl (Sub.skip rfl (Sub.skip rfl (Sub.skip rfl (Sub.skip rfl (Sub.skip rfl (Sub.refl _))))))) hk
    refine o_pure (p_move (v := .bool ((((((Lru.check c) == (Lru.check c)) && ((Lru.trace l) == (Lru.trace l))) && (decide (((Lru.access c key).1) = (⟨0, []⟩ : DCache)))) && (((Lru.access c key).2.1) == false)) && (((Lru.access c key).2.2) == 0))) rfl) rfl rfl rfl ?_
    refine o_and (p := 150) 4 ((Lru.accessErr c key) == (Lru.check c)) ?_ ?_ ?_
    · intro hb204 hk
      simp only [Bool.and_eq_true, beq_iff_eq, decide_eq_true_eq] at hb204
      refine o_unguard 146 rfl rfl ?_
      refine o_pure (p_move (v := .int .i64 (Lru.accessErr c key)) rfl) rfl rfl rfl ?_
      refine o_unguard 146 rfl rfl ?_
      refine o_pure (p_move (v := .int .i64 (Lru.check c)) rfl) rfl rfl rfl ?_
      refine o_unguard 146 rfl rfl ?_
      refine o_pure (p_eq (p := (Lru.accessErr c key)) (q := (Lru.check c)) rfl rfl) rfl rfl rfl ?_
      refine o_pure (p_pick_true (u := .bool ((Lru.accessErr c key) == (Lru.check c))) rfl rfl) rfl rfl rfl ?_
      exact o_sub (Sub.cons rfl (Sub.skip rfl (Sub.skip rfl (Sub.skip rfl (Sub.skip rfl (Sub.skip rfl (Sub.refl _))))))) hk
    · intro hb204 hk
      refine o_guard_no rfl 146 rfl rfl rfl rfl rfl ?_
      refine o_guard_no rfl 146 rfl rfl rfl rfl rfl ?_
      refine o_guard_no rfl 146 rfl rfl rfl rfl rfl ?_
      refine o_pure (p_pick_false (v := .bool false) rfl rfl) rfl rfl rfl ?_
      exact o_sub (Sub.cons rfl (Sub.skip rfl (Sub.skip rfl (Sub.skip rfl (Sub.skip rfl (Sub.skip rfl (Sub.refl _))))))) hk
    refine o_pure (p_move (v := .bool (((((((Lru.check c) == (Lru.check c)) && ((Lru.trace l) == (Lru.trace l))) && (decide (((Lru.access c key).1) = (⟨0, []⟩ : DCache)))) && (((Lru.access c key).2.1) == false)) && (((Lru.access c key).2.2) == 0)) && ((Lru.accessErr c key) == (Lru.check c)))) rfl) rfl rfl rfl ?_
    refine o_and (p := 155) 4 (decide (((Lru.run c l).1) = (⟨0, []⟩ : DCache))) ?_ ?_ ?_
    · intro hb205 hk
      simp only [Bool.and_eq_true, beq_iff_eq, decide_eq_true_eq] at hb205
      refine o_unguard 151 rfl rfl ?_
      refine o_pure (p_load_agg (i := 5) (vs := [.int .i64 (((Lru.run c l).1).room), .slice a10 (((Lru.run c l).1).keys).length c11]) rfl rfl sh72 rfl rfl) rfl rfl rfl ?_
      refine o_unguard 151 rfl rfl ?_
      refine o_pure (p_load_agg (i := 1) (vs := [.int .i64 0, .slice none 0 0]) rfl rfl sh72 rfl rfl) rfl rfl rfl ?_
      refine o_unguard 151 rfl rfl ?_
      refine o_call0 (v := .bool (decide (((Lru.run c l).1) = (⟨0, []⟩ : DCache)))) rfl (sameCache_ok ((Lru.run c l).1) a10 c11 (⟨0, []⟩ : DCache) none 0) hf60 (fun w hw => ⟨(rd_own (i := 6) rfl) w hw, rd_nil w hw⟩) rfl ?_
      refine o_pure (p_pick_true (u := .bool (decide (((Lru.run c l).1) = (⟨0, []⟩ : DCache)))) rfl rfl) rfl rfl rfl ?_
      exact o_sub (Sub.cons rfl (Sub.skip rfl (Sub.skip rfl (Sub.skip rfl (Sub.skip rfl (Sub.skip rfl (Sub.refl _))))))) hk
    · intro hb205 hk
      refine o_guard_no rfl 151 rfl rfl rfl rfl rfl ?_
      refine o_guard_no rfl 151 rfl rfl rfl rfl rfl ?_
      refine o_guard_no rfl 151 rfl rfl rfl rfl rfl ?_
      refine o_pure (p_pick_false (v := .bool false) rfl rfl) rfl rfl rfl ?_
      exact o_sub (Sub.cons rfl (Sub.skip rfl (Sub.skip rfl (Sub.skip rfl (Sub.skip rfl (Sub.skip rfl (Sub.refl _))))))) hk
    refine o_pure (p_move (v := .bool ((((((((Lru.check c) == (Lru.check c)) && ((Lru.trace l) == (Lru.trace l))) && (decide (((Lru.access c key).1) = (⟨0, []⟩ : DCache)))) && (((Lru.access c key).2.1) == false)) && (((Lru.access c key).2.2) == 0)) && ((Lru.accessErr c key) == (Lru.check c))) && (decide (((Lru.run c l).1) = (⟨0, []⟩ : DCache))))) rfl) rfl rfl rfl ?_
    refine o_and (p := 160) 4 (((Lru.run c l).2) == 0) ?_ ?_ ?_
    · intro hb206 hk
      simp only [Bool.and_eq_true, beq_iff_eq, decide_eq_true_eq] at hb206
      refine o_unguard 156 rfl rfl ?_
      refine o_pure (p_move (v := .int .i64 ((Lru.run c l).2)) rfl) rfl rfl rfl ?_
      refine o_unguard 156 rfl rfl ?_
      refine o_pure (p_move (v := .int .i64 0) rfl) rfl rfl rfl ?_
      refine o_unguard 156 rfl rfl ?_
      refine o_pure (p_eq (p := ((Lru.run c l).2)) (q := 0) rfl rfl) rfl rfl rfl ?_
      refine o_pure (p_pick_true (u := .bool (((Lru.run c l).2) == 0)) rfl rfl) rfl rfl rfl ?_
      exact o_sub (Sub.cons rfl (Sub.skip rfl (Sub.skip rfl (Sub.skip rfl (Sub.skip rfl (Sub.skip rfl (Sub.refl _))))))) hk
    · intro hb206 hk
      refine o_guard_no rfl 156 rfl rfl rfl rfl rfl ?_
      refine o_guard_no rfl 156 rfl rfl rfl rfl rfl ?_
      refine o_guard_no rfl 156 rfl rfl rfl rfl rfl ?_
      refine o_pure (p_pick_false (v := .bool false) rfl rfl) rfl rfl rfl ?_
      exact o_sub (Sub.cons rfl (Sub.skip rfl (Sub.skip rfl (Sub.skip rfl (Sub.skip rfl (Sub.skip rfl (Sub.refl _))))))) hk
    refine o_pure (p_move (v := .bool (((((((((Lru.check c) == (Lru.check c)) && ((Lru.trace l) == (Lru.trace l))) && (decide (((Lru.access c key).1) = (⟨0, []⟩ : DCache)))) && (((Lru.access c key).2.1) == false)) && (((Lru.access c key).2.2) == 0)) && ((Lru.accessErr c key) == (Lru.check c))) && (decide (((Lru.run c l).1) = (⟨0, []⟩ : DCache)))) && (((Lru.run c l).2) == 0))) rfl) rfl rfl rfl ?_
    refine o_and (p := 165) 4 ((Lru.runErr c l) == (Lru.check c)) ?_ ?_ ?_
    · intro hb207 hk
      simp only [Bool.and_eq_true, beq_iff_eq, decide_eq_true_eq] at hb207
      refine o_unguard 161 rfl rfl ?_
      refine o_pure (p_move (v := .int .i64 (Lru.runErr c l)) rfl) rfl rfl rfl ?_
      refine o_unguard 161 rfl rfl ?_
      refine o_pure (p_move (v := .int .i64 (Lru.check c)) rfl) rfl rfl rfl ?_
      refine o_unguard 161 rfl rfl ?_
      refine o_pure (p_eq (p := (Lru.runErr c l)) (q := (Lru.check c)) rfl rfl) rfl rfl rfl ?_
      refine o_pure (p_pick_true (u := .bool ((Lru.runErr c l) == (Lru.check c))) rfl rfl) rfl rfl rfl ?_
      exact o_sub (Sub.cons rfl (Sub.skip rfl (Sub.skip rfl (Sub.skip rfl (Sub.skip rfl (Sub.skip rfl (Sub.refl _))))))) hk
    · intro hb207 hk
      refine o_guard_no rfl 161 rfl rfl rfl rfl rfl ?_
      refine o_guard_no rfl 161 rfl rfl rfl rfl rfl ?_
      refine o_guard_no rfl 161 rfl rfl rfl rfl rfl ?_
      refine o_pure (p_pick_false (v := .bool false) rfl rfl) rfl rfl rfl ?_
      exact o_sub (Sub.cons rfl (Sub.skip rfl (Sub.skip rfl (Sub.skip rfl (Sub.skip rfl (Sub.skip rfl (Sub.refl _))))))) hk
    refine o_pure (p_move (v := .bool ((((((((((Lru.check c) == (Lru.check c)) && ((Lru.trace l) == (Lru.trace l))) && (decide (((Lru.access c key).1) = (⟨0, []⟩ : DCache)))) && (((Lru.access c key).2.1) == false)) && (((Lru.access c key).2.2) == 0)) && ((Lru.accessErr c key) == (Lru.check c))) && (decide (((Lru.run c l).1) = (⟨0, []⟩ : DCache)))) && (((Lru.run c l).2) == 0)) && ((Lru.runErr c l) == (Lru.check c)))) rfl) rfl rfl rfl ?_
    refine o_and (p := 170) 4 (decide (((Lru.resize c room).1) = (⟨0, []⟩ : DCache))) ?_ ?_ ?_
    · intro hb208 hk
      simp only [Bool.and_eq_true, beq_iff_eq, decide_eq_true_eq] at hb208
      refine o_unguard 166 rfl rfl ?_
      refine o_pure (p_load_agg (i := 3) (vs := [.int .i64 (((Lru.resize c room).1).room), .slice a16 (((Lru.resize c room).1).keys).length c17]) rfl rfl sh72 rfl rfl) rfl rfl rfl ?_
      refine o_unguard 166 rfl rfl ?_
      refine o_pure (p_load_agg (i := 0) (vs := [.int .i64 0, .slice none 0 0]) rfl rfl sh72 rfl rfl) rfl rfl rfl ?_
      refine o_unguard 166 rfl rfl ?_
      refine o_call0 (v := .bool (decide (((Lru.resize c room).1) = (⟨0, []⟩ : DCache)))) rfl (sameCache_ok ((Lru.resize c room).1) a16 c17 (⟨0, []⟩ : DCache) none 0) hf60 (fun w hw => ⟨(rd_ent (i := 4) rfl (fun w h => h.1)) w hw, rd_nil w hw⟩) rfl ?_
      refine o_pure (p_pick_true (u := .bool (decide (((Lru.resize c room).1) = (⟨0, []⟩ : DCache)))) rfl rfl) rfl rfl rfl ?_
      exact o_sub (Sub.cons rfl (Sub.skip rfl (Sub.skip rfl (Sub.skip rfl (Sub.skip rfl (Sub.skip rfl (Sub.refl _))))))) hk
    · intro hb208 hk
      refine o_guard_no rfl 166 rfl rfl rfl rfl rfl ?_
      refine o_guard_no rfl 166 rfl rfl rfl rfl rfl ?_
      refine o_guard_no rfl 166 rfl rfl rfl rfl rfl ?_
      refine o_pure (p_pick_false (v := .bool false) rfl rfl) rfl rfl rfl ?_
      exact o_sub (Sub.cons rfl (Sub.skip rfl (Sub.skip rfl (Sub.skip rfl (Sub.skip rfl (Sub.skip rfl (Sub.refl _))))))) hk
    refine o_pure (p_move (v := .bool (((((((((((Lru.check c) == (Lru.check c)) && ((Lru.trace l) == (Lru.trace l))) && (decide (((Lru.access c key).1) = (⟨0, []⟩ : DCache)))) && (((Lru.access c key).2.1) == false)) && (((Lru.access c key).2.2) == 0)) && ((Lru.accessErr c key) == (Lru.check c))) && (decide (((Lru.run c l).1) = (⟨0, []⟩ : DCache)))) && (((Lru.run c l).2) == 0)) && ((Lru.runErr c l) == (Lru.check c))) && (decide (((Lru.resize c room).1) = (⟨0, []⟩ : DCache))))) rfl) rfl rfl rfl ?_
    refine o_and (p := 175) 4 (Ref.sameInts ((Lru.resize c room).2) []) ?_ ?_ ?_
    · intro hb209 hk
      simp only [Bool.and_eq_true, beq_iff_eq, decide_eq_true_eq] at hb209
      refine o_unguard 171 rfl rfl ?_
      refine o_pure (p_move (v := .slice a18 ((Lru.resize c room).2).length c19) rfl) rfl rfl rfl ?_
      refine o_unguard 171 rfl rfl ?_
      refine o_pure (p_move (v := .slice none 0 0) rfl) rfl rfl rfl ?_
      refine o_unguard 171 rfl rfl ?_
      refine o_call0 (v := .bool (Ref.sameInts ((Lru.resize c room).2) [])) rfl (sameInts_ok ((Lru.resize c room).2) a18 c19 [] none 0) hf47 (fun w hw => ⟨(rd_ent (i := 4) rfl (fun w h => h.2)) w hw, rd_nil w hw⟩) rfl ?_
      refine o_pure (p_pick_true (u := .bool (Ref.sameInts ((Lru.resize c room).2) [])) rfl rfl) rfl rfl rfl ?_
      exact o_sub (Sub.cons rfl (Sub.skip rfl (Sub.skip rfl (Sub.skip rfl (Sub.skip rfl (Sub.skip rfl (Sub.refl _))))))) hk
    · intro hb209 hk
      refine o_guard_no rfl 171 rfl rfl rfl rfl rfl ?_
      refine o_guard_no rfl 171 rfl rfl rfl rfl rfl ?_
      refine o_guard_no rfl 171 rfl rfl rfl rfl rfl ?_
      refine o_pure (p_pick_false (v := .bool false) rfl rfl) rfl rfl rfl ?_
      exact o_sub (Sub.cons rfl (Sub.skip rfl (Sub.skip rfl (Sub.skip rfl (Sub.skip rfl (Sub.skip rfl (Sub.refl _))))))) hk
    refine o_pure (p_move (v := .bool ((((((((((((Lru.check c) == (Lru.check c)) && ((Lru.trace l) == (Lru.trace l))) && (decide (((Lru.access c key).1) = (⟨0, []⟩ : DCache)))) && (((Lru.access c key).2.1) == false)) && (((Lru.access c key).2.2) == 0)) && ((Lru.accessErr c key) == (Lru.check c))) && (decide (((Lru.run c l).1) = (⟨0, []⟩ : DCache)))) && (((Lru.run c l).2) == 0)) && ((Lru.runErr c l) == (Lru.check c))) && (decide (((Lru.resize c room).1) = (⟨0, []⟩ : DCache)))) && (Ref.sameInts ((Lru.resize c room).2) []))) rfl) rfl rfl rfl ?_
    refine o_and (p := 180) 4 ((Lru.sizeErr c room) == (Lru.check c)) ?_ ?_ ?_
    · intro hb210 hk
      simp only [Bool.and_eq_true, beq_iff_eq, decide_eq_true_eq] at hb210
      refine o_unguard 176 rfl rfl ?_
      refine o_pure (p_move (v := .int .i64 (Lru.sizeErr c room)) rfl) rfl rfl rfl ?_
      refine o_unguard 176 rfl rfl ?_
      refine o_pure (p_move (v := .int .i64 (Lru.check c)) rfl) rfl rfl rfl ?_
      refine o_unguard 176 rfl rfl ?_
      refine o_pure (p_eq (p := (Lru.sizeErr c room)) (q := (Lru.check c)) rfl rfl) rfl rfl rfl ?_
      refine o_pure (p_pick_true (u := .bool ((Lru.sizeErr c room) == (Lru.check c))) rfl rfl) rfl rfl rfl ?_
      exact o_sub (Sub.cons rfl (Sub.skip rfl (Sub.skip rfl (Sub.skip rfl (Sub.skip rfl (Sub.skip rfl (Sub.refl _))))))) hk
    · intro hb210 hk
      refine o_guard_no rfl 176 rfl rfl rfl rfl rfl ?_
      refine o_guard_no rfl 176 rfl rfl rfl rfl rfl ?_
      refine o_guard_no rfl 176 rfl rfl rfl rfl rfl ?_
      refine o_pure (p_pick_false (v := .bool false) rfl rfl) rfl rfl rfl ?_
      exact o_sub (Sub.cons rfl (Sub.skip rfl (Sub.skip rfl (Sub.skip rfl (Sub.skip rfl (Sub.skip rfl (Sub.refl _))))))) hk
    refine o_pure (p_assign (v := .bool (((((((((((((Lru.check c) == (Lru.check c)) && ((Lru.trace l) == (Lru.trace l))) && (decide (((Lru.access c key).1) = (⟨0, []⟩ : DCache)))) && (((Lru.access c key).2.1) == false)) && (((Lru.access c key).2.2) == 0)) && ((Lru.accessErr c key) == (Lru.check c))) && (decide (((Lru.run c l).1) = (⟨0, []⟩ : DCache)))) && (((Lru.run c l).2) == 0)) && ((Lru.runErr c l) == (Lru.check c))) && (decide (((Lru.resize c room).1) = (⟨0, []⟩ : DCache)))) && (Ref.sameInts ((Lru.resize c room).2) [])) && ((Lru.sizeErr c room) == (Lru.check c)))) rfl) rfl rfl rfl ?_
    refine o_nil ?_
    refine q_then ?_
    refine c_ret ?_
    have hr0 : ((((((((((((((Lru.check c) == (Lru.check c)) && ((Lru.trace l) == (Lru.trace l))) && (decide (((Lru.access c key).1) = (⟨0, []⟩ : DCache)))) && (((Lru.access c key).2.1) == false)) && (((Lru.access c key).2.2) == 0)) && ((Lru.accessErr c key) == (Lru.check c))) && (decide (((Lru.run c l).1) = (⟨0, []⟩ : DCache)))) && (((Lru.run c l).2) == 0)) && ((Lru.runErr c l) == (Lru.check c))) && (decide (((Lru.resize c room).1) = (⟨0, []⟩ : DCache)))) && (Ref.sameInts ((Lru.resize c room).2) [])) && ((Lru.sizeErr c room) == (Lru.check c))) : Bool) = true := by
      rcases Lru.acc_num c key with ⟨a0, a1, a2⟩ | ⟨a0, a3, a1, a2⟩ | ⟨a0, a3, a1, a2⟩ <;> rcases Lru.run_cases c l with ⟨b0, b1, b2⟩ | ⟨b0, b3, b1, b2⟩ | ⟨b0, b3, b1, b2⟩ <;> rcases Lru.size_num c room with ⟨s0, s1, s2⟩ | ⟨s0, s3, s1, s2⟩ | ⟨s0, s3, s1, s2⟩ <;> first | (exfalso; omega) | (rw [a1, a2, b1, b2, s1, s2]; first | (simp [Lru.zero, Ref.sameInts, a0]; done) | (simp [Lru.zero, Ref.sameInts, a0, b3]; done) | (obtain ⟨hz1, hz2⟩ := hI.done (by omega); rw [hz1, hz2]; first | (simp [Lru.zero, Ref.sameInts, a0]; done) | (simp [Lru.zero, Ref.sameInts, a0, b3]; done)))
    refine q_end0 (v := .bool (((((((((((((Lru.check c) == (Lru.check c)) && ((Lru.trace l) == (Lru.trace l))) && (decide (((Lru.access c key).1) = (⟨0, []⟩ : DCache)))) && (((Lru.access c key).2.1) == false)) && (((Lru.access c key).2.2) == 0)) && ((Lru.accessErr c key) == (Lru.check c))) && (decide (((Lru.run c l).1) = (⟨0, []⟩ : DCache)))) && (((Lru.run c l).2) == 0)) && ((Lru.runErr c l) == (Lru.check c))) && (decide (((Lru.resize c room).1) = (⟨0, []⟩ : DCache)))) && (Ref.sameInts ((Lru.resize c room).2) [])) && ((Lru.sizeErr c room) == (Lru.check c)))) (rt1 rfl (r_tmp rfl)) (i := 10) rfl ?_
    exact (by have hcc := congrArg (fun (y0 : Bool) => (.bool y0 : Value)) hr0; exact hcc)
end Go.Proofs.Ythbfdhphnofacac
