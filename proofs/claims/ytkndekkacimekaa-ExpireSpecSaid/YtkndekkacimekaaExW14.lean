/- The walks, printed by a program from the translation and a specification. -/
import Derived.Test.YtkndekkacimekaaExF
import Derived.Test.YtkndekkacimekaaExLaw2
import Derived.Test.YtkndekkacimekaaExW13
import Derived.Test.YtkndekkacimekaaExW10
import Derived.Test.YtkndekkacimekaaExW11
namespace Go.Proofs.Ytkndekkacimekaa
open Go.Sx Go.RowKit
set_option maxHeartbeats 8000000 in
set_option maxRecDepth 100000 in
theorem expireSpec_ok (s : DStore) (as_0 : Option Addr) (cs_0 : Nat) (key : Int) (n : Int) (now : Int) : Fn0 Try.prog 3 [.agg #[.int .i64 s.life, .slice as_0 s.entries.length cs_0], .int .i64 key, .int .i64 n, .int .i64 now] (fun w => Rd tEntry w as_0 cs_0 s.entries) (.bool true) := by
  refine fn0 (nt := 202) (F0 := [(0, .agg #[.int .i64 s.life, .slice as_0 s.entries.length cs_0]), (1, .int .i64 key), (2, .int .i64 n), (3, .int .i64 now)]) Try.func3 rfl Try.ntmps3 rfl rfl (fun w0 hpre => ?_)
  have hs_0 := hpre
  have hlhs_0 := hs_0.2.1
  refine c_seq ?_
  refine c_region ?_
  refine o_box (v := .agg #[.int .i64 s.life, .slice as_0 s.entries.length cs_0]) rfl rfl (fun B1 => ?_)
  refine o_pure (p_assign (v := .bool false) rfl) rfl rfl rfl ?_
  refine o_nil ?_
  refine q_then ?_
  refine c_seq ?_
  refine c_region ?_
  refine o_pure (p_load_agg (i := 0) (vs := [.int .i64 s.life, .slice as_0 s.entries.length cs_0]) rfl rfl sh24 rfl rfl) rfl rfl rfl ?_
  refine o_pure (p_move (v := .int .i64 key) rfl) rfl rfl rfl ?_
  refine o_pure (p_move (v := .int .i64 n) rfl) rfl rfl rfl ?_
  refine o_pure (p_move (v := .int .i64 now) rfl) rfl rfl rfl ?_
  refine o_callM rfl (eput_ok s as_0 cs_0 key n now) hf15 (fun w hw => (rd_base (i := 1) rfl hs_0) w hw) rfl (fun _ _ _ _ ha hA => SlO.agree ha hA) ?_
  rintro ⟨a4, c5⟩ S2
  refine o_know (fun w hw => own_len (i := 0) (T := tEntry) hw rfl) (fun hlr6 => ?_)
  refine o_pure (p_move (v := .tuple #[.agg #[.int .i64 ((Exp.put s key n now).life), .slice a4 ((Exp.put s key n now).entries).length c5], .int .i64 (Exp.putErr s key n now)]) rfl) rfl rfl rfl ?_
  refine o_pure (p_extract (vs := [.agg #[.int .i64 ((Exp.put s key n now).life), .slice a4 ((Exp.put s key n now).entries).length c5], .int .i64 (Exp.putErr s key n now)]) (v := .agg #[.int .i64 ((Exp.put s key n now).life), .slice a4 ((Exp.put s key n now).entries).length c5]) rfl rfl) rfl rfl rfl ?_
  refine o_pure (p_extract (vs := [.agg #[.int .i64 ((Exp.put s key n now).life), .slice a4 ((Exp.put s key n now).entries).length c5], .int .i64 (Exp.putErr s key n now)]) (v := .int .i64 (Exp.putErr s key n now)) rfl rfl) rfl rfl rfl ?_
  refine o_alloc ze24 rfl (fun B7 => ?_)
  refine o_storeN (i := 0) (vs := [.int .i64 ((Exp.put s key n now).life), .slice a4 ((Exp.put s key n now).entries).length c5]) (cs' := [.int .i64 ((Exp.put s key n now).life), .slice a4 ((Exp.put s key n now).entries).length c5]) rfl rfl rfl sz24 rfl rfl rfl rfl ?_
  refine o_pure (p_assign (v := .int .i64 (Exp.putErr s key n now)) rfl) rfl rfl rfl ?_
  refine o_nil ?_
  refine q_then ?_
  refine c_seq ?_
  refine c_region ?_
  refine o_pure (p_load_agg (i := 2) (vs := [.int .i64 s.life, .slice as_0 s.entries.length cs_0]) rfl rfl sh24 rfl rfl) rfl rfl rfl ?_
  refine o_pure (p_move (v := .int .i64 key) rfl) rfl rfl rfl ?_
  refine o_pure (p_move (v := .int .i64 now) rfl) rfl rfl rfl ?_
  refine o_call0 (v := .tuple #[.int .i64 ((Exp.get s key now).1), .bool ((Exp.get s key now).2), .int .i64 (Exp.getErr s key now)]) rfl (eget_ok s as_0 cs_0 key now) hf16 (fun w hw => (rd_base (i := 3) rfl hs_0) w hw) rfl ?_
  refine o_pure (p_move (v := .tuple #[.int .i64 ((Exp.get s key now).1), .bool ((Exp.get s key now).2), .int .i64 (Exp.getErr s key now)]) rfl) rfl rfl rfl ?_
  refine o_pure (p_extract (vs := [.int .i64 ((Exp.get s key now).1), .bool ((Exp.get s key now).2), .int .i64 (Exp.getErr s key now)]) (v := .int .i64 ((Exp.get s key now).1)) rfl rfl) rfl rfl rfl ?_
  refine o_pure (p_extract (vs := [.int .i64 ((Exp.get s key now).1), .bool ((Exp.get s key now).2), .int .i64 (Exp.getErr s key now)]) (v := .bool ((Exp.get s key now).2)) rfl rfl) rfl rfl rfl ?_
  refine o_pure (p_extract (vs := [.int .i64 ((Exp.get s key now).1), .bool ((Exp.get s key now).2), .int .i64 (Exp.getErr s key now)]) (v := .int .i64 (Exp.getErr s key now)) rfl rfl) rfl rfl rfl ?_
  refine o_pure (p_assign (v := .int .i64 ((Exp.get s key now).1)) rfl) rfl rfl rfl ?_
  refine o_pure (p_assign (v := .bool ((Exp.get s key now).2)) rfl) rfl rfl rfl ?_
  refine o_pure (p_assign (v := .int .i64 (Exp.getErr s key now)) rfl) rfl rfl rfl ?_
  refine o_nil ?_
  refine q_then ?_
  refine c_seq ?_
  refine c_region ?_
  refine o_pure (p_load_agg (i := 2) (vs := [.int .i64 s.life, .slice as_0 s.entries.length cs_0]) rfl rfl sh24 rfl rfl) rfl rfl rfl ?_
  refine o_pure (p_move (v := .int .i64 now) rfl) rfl rfl rfl ?_
  refine o_callM rfl (esweep_ok s as_0 cs_0 now) hf17 (fun w hw => (rd_base (i := 3) rfl hs_0) w hw) rfl (fun _ _ _ _ ha hA => ⟨SlR.agree ha hA.1, SlR.agree ha hA.2⟩) ?_
  rintro ⟨a10, c11, a12, c13⟩ S8
  refine o_know (fun w hw => (hw.at (i := 0) rfl).here.1.2.1) (fun hlr14 => ?_)
  refine o_know (fun w hw => (hw.at (i := 0) rfl).here.2.2.1) (fun hlr15 => ?_)
  refine o_pure (p_move (v := .tuple #[.agg #[.int .i64 (((Exp.sweep s now).1).life), .slice a10 (((Exp.sweep s now).1).entries).length c11], .slice a12 ((Exp.sweep s now).2).length c13, .int .i64 (Exp.nowErr s now)]) rfl) rfl rfl rfl ?_
  refine o_pure (p_extract (vs := [.agg #[.int .i64 (((Exp.sweep s now).1).life), .slice a10 (((Exp.sweep s now).1).entries).length c11], .slice a12 ((Exp.sweep s now).2).length c13, .int .i64 (Exp.nowErr s now)]) (v := .agg #[.int .i64 (((Exp.sweep s now).1).life), .slice a10 (((Exp.sweep s now).1).entries).length c11]) rfl rfl) rfl rfl rfl ?_
  refine o_pure (p_extract (vs := [.agg #[.int .i64 (((Exp.sweep s now).1).life), .slice a10 (((Exp.sweep s now).1).entries).length c11], .slice a12 ((Exp.sweep s now).2).length c13, .int .i64 (Exp.nowErr s now)]) (v := .slice a12 ((Exp.sweep s now).2).length c13) rfl rfl) rfl rfl rfl ?_
  refine o_pure (p_extract (vs := [.agg #[.int .i64 (((Exp.sweep s now).1).life), .slice a10 (((Exp.sweep s now).1).entries).length c11], .slice a12 ((Exp.sweep s now).2).length c13, .int .i64 (Exp.nowErr s now)]) (v := .int .i64 (Exp.nowErr s now)) rfl rfl) rfl rfl rfl ?_
  refine o_alloc ze24 rfl (fun B16 => ?_)
  refine o_storeN (i := 0) (vs := [.int .i64 (((Exp.sweep s now).1).life), .slice a10 (((Exp.sweep s now).1).entries).length c11]) (cs' := [.int .i64 (((Exp.sweep s now).1).life), .slice a10 (((Exp.sweep s now).1).entries).length c11]) rfl rfl rfl sz24 rfl rfl rfl rfl ?_
  refine o_pure (p_assign (v := .slice a12 ((Exp.sweep s now).2).length c13) rfl) rfl rfl rfl ?_
  refine o_pure (p_assign (v := .int .i64 (Exp.nowErr s now)) rfl) rfl rfl rfl ?_
  refine o_nil ?_
  refine q_then ?_
  refine c_seq ?_
  refine c_region ?_
  refine o_pure (p_load_agg (i := 4) (vs := [.int .i64 s.life, .slice as_0 s.entries.length cs_0]) rfl rfl sh24 rfl rfl) rfl rfl rfl ?_
  refine o_call0 (v := .tuple #[.int .i64 (Exp.next s), .int .i64 (Exp.nextErr s)]) rfl (enext_ok s as_0 cs_0) hf18 (fun w hw => (rd_base (i := 5) rfl hs_0) w hw) rfl ?_
  refine o_pure (p_move (v := .tuple #[.int .i64 (Exp.next s), .int .i64 (Exp.nextErr s)]) rfl) rfl rfl rfl ?_
  refine o_pure (p_extract (vs := [.int .i64 (Exp.next s), .int .i64 (Exp.nextErr s)]) (v := .int .i64 (Exp.next s)) rfl rfl) rfl rfl rfl ?_
  refine o_pure (p_extract (vs := [.int .i64 (Exp.next s), .int .i64 (Exp.nextErr s)]) (v := .int .i64 (Exp.nextErr s)) rfl rfl) rfl rfl rfl ?_
  refine o_pure (p_assign (v := .int .i64 (Exp.next s)) rfl) rfl rfl rfl ?_
  refine o_pure (p_assign (v := .int .i64 (Exp.nextErr s)) rfl) rfl rfl rfl ?_
  refine o_nil ?_
  refine q_then ?_
  refine c_seq ?_
  refine c_draw hmix (by kernel_rfl) ?_
  refine w_pure (p_load_agg (i := 4) (vs := [.int .i64 s.life, .slice as_0 s.entries.length cs_0]) rfl rfl sh24 rfl rfl) rfl rfl rfl ?_
  refine w_call0 (v := .int .i64 (Exp.check s)) rfl (lastCheck_ok s as_0 cs_0) hf19 (fun w hw => (rd_base (i := 5) rfl hs_0) w hw) rfl ?_
  refine w_pure (p_load_agg (i := 4) (vs := [.int .i64 s.life, .slice as_0 s.entries.length cs_0]) rfl rfl sh24 rfl rfl) rfl rfl rfl ?_
  refine w_pure (p_move (v := .int .i64 now) rfl) rfl rfl rfl ?_
  refine w_call0 (v := .int .i64 (Exp.nowErr s now)) rfl (lastErr_ok s as_0 cs_0 now) hf20 (fun w hw => (rd_base (i := 5) rfl hs_0) w hw) rfl ?_
  refine w_pure (p_assign (v := .int .i64 (Exp.check s)) rfl) rfl rfl rfl ?_
  refine w_pure (p_assign (v := .int .i64 (Exp.nowErr s now)) rfl) rfl rfl rfl ?_
  refine w_nil ?_
  refine q_then ?_
  refine c_seq ?_
  refine c_region ?_
  refine o_pure (p_move (v := .int .i64 (Exp.nowErr s now)) rfl) rfl rfl rfl ?_
  refine o_pure (p_assign (v := .int .i64 (Exp.nowErr s now)) rfl) rfl rfl rfl ?_
  refine o_nil ?_
  refine q_then ?_
  refine c_seq ?_
  refine c_seq ?_
  refine c_region ?_
  refine o_pure (p_move (v := .int .i64 (Exp.nowErr s now)) rfl) rfl rfl rfl ?_
  refine o_pure (p_eq (p := (Exp.nowErr s now)) (q := 0) rfl rfl) rfl rfl rfl ?_
  refine o_pure (p_move (v := .bool ((Exp.nowErr s now) == 0)) rfl) rfl rfl rfl ?_
  refine o_and (p := 74) 7 (decide (key < 0) || decide (1048576 < key)) ?_ ?_ ?_
  · intro hb17 hk
    simp only [beq_iff_eq] at hb17
    refine o_unguard 67 rfl rfl ?_
    refine o_pure (p_move (v := .int .i64 key) rfl) rfl rfl rfl ?_
    refine o_unguard 67 rfl rfl ?_
    refine o_pure (p_lt (p := key) (q := 0) rfl rfl) rfl rfl rfl ?_
    refine o_unguard 67 rfl rfl ?_
    refine o_pure (p_move (v := .bool (decide (key < 0))) rfl) rfl rfl rfl ?_
    refine o_or (p := 73) 3 (decide (1048576 < key)) ?_ ?_ ?_
    · intro hb18 hk
      simp only [decide_eq_false_iff_not, Int.not_lt] at hb18
      refine o_unguard 70 rfl rfl ?_
      refine o_pure (p_move (v := .int .i64 key) rfl) rfl rfl rfl ?_
      refine o_unguard 70 rfl rfl ?_
      refine o_pure (p_gt (p := key) (q := 1048576) rfl rfl) rfl rfl rfl ?_
      refine o_unguard 67 rfl rfl ?_
      refine o_pure (p_pick_false (v := .bool (decide (1048576 < key))) rfl rfl) rfl rfl rfl ?_
      exact o_sub (Sub.cons rfl (Sub.skip rfl (Sub.skip rfl (Sub.skip rfl (Sub.skip rfl (Sub.refl _)))))) hk
    · intro hb18 hk
      refine o_guard_no rfl 70 rfl rfl rfl rfl rfl ?_
      refine o_guard_no rfl 70 rfl rfl rfl rfl rfl ?_
      refine o_unguard 67 rfl rfl ?_
      refine o_pure (p_pick_true (u := .bool true) rfl rfl) rfl rfl rfl ?_
      exact o_sub (Sub.cons rfl (Sub.skip rfl (Sub.skip rfl (Sub.skip rfl (Sub.skip rfl (Sub.refl _)))))) hk
    refine o_pure (p_pick_true (u := .bool (decide (key < 0) || decide (1048576 < key))) rfl rfl) rfl rfl rfl ?_
    exact o_sub (Sub.cons rfl (Sub.skip rfl (Sub.skip rfl (Sub.skip rfl (Sub.skip rfl (Sub.skip rfl (Sub.refl _))))))) hk
  · intro hb17 hk
    refine o_guard_no rfl 67 rfl rfl rfl rfl rfl ?_
    refine o_guard_no rfl 67 rfl rfl rfl rfl rfl ?_
    refine o_guard_no rfl 67 rfl rfl rfl rfl rfl ?_
    refine o_guard_no rfl 70 rfl rfl rfl rfl rfl ?_
    refine o_guard_no rfl 70 rfl rfl rfl rfl rfl ?_
    refine o_guard_no rfl 67 rfl rfl rfl rfl rfl ?_
    refine o_pure (p_pick_false (v := .bool false) rfl rfl) rfl rfl rfl ?_
    exact o_sub (Sub.cons rfl (Sub.skip rfl (Sub.skip rfl (Sub.skip rfl (Sub.skip rfl (Sub.skip rfl (Sub.skip rfl (Sub.skip rfl (Sub.skip rfl (Sub.refl _)))))))))) hk
  refine o_nil ?_
  refine q_then ?_
  refine c_cond (b := (((Exp.nowErr s now) == 0) && (decide (key < 0) || decide (1048576 < key)))) rfl (fun hc19 => ?_) (fun hc19 => ?_)
  · simp only [Bool.and_eq_true, beq_iff_eq, Bool.or_eq_true, decide_eq_true_eq] at hc19
    refine c_region ?_
    refine o_pure (p_assign (v := .int .i64 3) rfl) rfl rfl rfl ?_
    refine o_nil ?_
    refine q_then ?_
    refine c_seq ?_
    refine c_region ?_
    refine o_pure (p_move (v := .int .i64 3) rfl) rfl rfl rfl ?_
    refine o_pure (p_move (v := .int .i64 (Exp.check s)) rfl) rfl rfl rfl ?_
    refine o_pure (p_assign (v := .int .i64 3) rfl) rfl rfl rfl ?_
    refine o_pure (p_assign (v := .int .i64 (Exp.check s)) rfl) rfl rfl rfl ?_
    refine o_nil ?_
    refine q_then ?_
    refine c_seq ?_
    refine c_region ?_
    refine o_alloc ze24 rfl (fun B20 => ?_)
    refine o_alloc ze24 rfl (fun B21 => ?_)
    refine o_nil ?_
    refine q_then ?_
    refine c_seq ?_
    refine c_region ?_
    refine o_pure (p_assign (v := .slice none 0 0) rfl) rfl rfl rfl ?_
    refine o_nil ?_
    refine q_then ?_
    refine c_seq ?_
    refine c_region ?_
    refine o_pure (p_assign (v := .int .i64 0) rfl) rfl rfl rfl ?_
    refine o_pure (p_assign (v := .bool false) rfl) rfl rfl rfl ?_
    refine o_pure (p_assign (v := .int .i64 0) rfl) rfl rfl rfl ?_
    refine o_nil ?_
    refine q_then ?_
    refine c_seq ?_
    refine c_seq ?_
    refine c_region ?_
    refine o_pure (p_move (v := .int .i64 (Exp.nowErr s now)) rfl) rfl rfl rfl ?_
    refine o_pure (p_eq (p := (Exp.nowErr s now)) (q := 0) rfl rfl) rfl rfl rfl ?_
    refine o_nil ?_
    refine q_then ?_
    refine c_cond (b := ((Exp.nowErr s now) == 0)) rfl (fun hc22 => ?_) (fun hc22 => ?_)
    · simp only [beq_iff_eq] at hc22
      have hok := (Exp.now_ok hc22).1
      have hnw := (Exp.now_ok hc22).2
      have hlen := hok.len
      refine c_region ?_
      refine o_pure (p_load_agg (i := 6) (vs := [.int .i64 s.life, .slice as_0 s.entries.length cs_0]) rfl rfl sh24 rfl rfl) rfl rfl rfl ?_
      refine o_pure (p_move (v := .int .i64 now) rfl) rfl rfl rfl ?_
      refine o_callM rfl (lastSweep_ok s as_0 cs_0 now (by omega)) hf21 (fun w hw => (rd_base (i := 7) rfl hs_0) w hw) rfl (fun _ _ _ _ ha hA => ⟨SlR.agree ha hA.1, SlR.agree ha hA.2⟩) ?_
      rintro ⟨a25, c26, a27, c28⟩ S23
      refine o_know (fun w hw => (hw.at (i := 0) rfl).here.1.2.1) (fun hlr29 => ?_)
      refine o_know (fun w hw => (hw.at (i := 0) rfl).here.2.2.1) (fun hlr30 => ?_)
      refine o_pure (p_move (v := .tuple #[.agg #[.int .i64 s.life, .slice a25 (Exp.live now s.entries).length c26], .slice a27 (Exp.over now s.entries).length c28]) rfl) rfl rfl rfl ?_
      refine o_pure (p_extract (vs := [.agg #[.int .i64 s.life, .slice a25 (Exp.live now s.entries).length c26], .slice a27 (Exp.over now s.entries).length c28]) (v := .agg #[.int .i64 s.life, .slice a25 (Exp.live now s.entries).length c26]) rfl rfl) rfl rfl rfl ?_
      refine o_pure (p_extract (vs := [.agg #[.int .i64 s.life, .slice a25 (Exp.live now s.entries).length c26], .slice a27 (Exp.over now s.entries).length c28]) (v := .slice a27 (Exp.over now s.entries).length c28) rfl rfl) rfl rfl rfl ?_
      refine o_storeN (i := 1) (vs := [.int .i64 s.life, .slice a25 (Exp.live now s.entries).length c26]) (cs' := [.int .i64 s.life, .slice a25 (Exp.live now s.entries).length c26]) rfl rfl rfl sz24 rfl rfl rfl rfl ?_
      refine o_pure (p_assign (v := .slice a27 (Exp.over now s.entries).length c28) rfl) rfl rfl rfl ?_
      refine o_nil ?_
      refine q_then ?_
      refine c_seq ?_
      refine c_seq ?_
      refine c_region ?_
      refine o_pure (p_move (v := .int .i64 3) rfl) rfl rfl rfl ?_
      refine o_pure (p_eq (p := 3) (q := 0) rfl rfl) rfl rfl rfl ?_
      refine o_nil ?_
      refine q_then ?_
      refine c_false rfl ?_
      refine c_skip ?_
      refine q_then ?_
      refine c_seq ?_
      refine c_seq ?_
      refine c_region ?_
      refine o_pure (p_move (v := .int .i64 (Exp.check s)) rfl) rfl rfl rfl ?_
      refine o_pure (p_eq (p := (Exp.check s)) (q := 0) rfl rfl) rfl rfl rfl ?_
      refine o_pure (p_move (v := .bool ((Exp.check s) == 0)) rfl) rfl rfl rfl ?_
      refine o_and (p := 115) 5 ((s.entries.length : Int) == 0) ?_ ?_ ?_
      · intro hb31 hk
        simp only [beq_iff_eq] at hb31
        refine o_unguard 110 rfl rfl ?_
        refine o_pure (p_fieldAddr (B := B1) (j := 0) (j' := 1) rfl fo24_1 rfl) rfl rfl rfl ?_
        refine o_unguard 110 rfl rfl ?_
        refine o_pure (p_load (i := 7) (v := .slice as_0 s.entries.length cs_0) rfl rfl sh22 rfl) rfl rfl rfl ?_
        refine o_unguard 110 rfl rfl ?_
        refine o_pure (p_len_slice (len := s.entries.length) rfl rfl Try.underlying22) rfl rfl rfl ?_
        refine o_unguard 110 rfl rfl ?_
        refine o_pure (p_eq (p := (s.entries.length : Int)) (q := 0) rfl rfl) rfl rfl rfl ?_
        refine o_pure (p_pick_true (u := .bool ((s.entries.length : Int) == 0)) rfl rfl) rfl rfl rfl ?_
        exact o_sub (Sub.cons rfl (Sub.skip rfl (Sub.skip rfl (Sub.skip rfl (Sub.skip rfl (Sub.skip rfl (Sub.skip rfl (Sub.refl _)))))))) hk
      · intro hb31 hk
        refine o_guard_no rfl 110 rfl rfl rfl rfl rfl ?_
        refine o_guard_no rfl 110 rfl rfl rfl rfl rfl ?_
        refine o_guard_no rfl 110 rfl rfl rfl rfl rfl ?_
        refine o_guard_no rfl 110 rfl rfl rfl rfl rfl ?_
        refine o_pure (p_pick_false (v := .bool false) rfl rfl) rfl rfl rfl ?_
        exact o_sub (Sub.cons rfl (Sub.skip rfl (Sub.skip rfl (Sub.skip rfl (Sub.skip rfl (Sub.skip rfl (Sub.skip rfl (Sub.refl _)))))))) hk
      refine o_nil ?_
      refine q_then ?_
      refine c_join (G := Int)
        (fun t => [(4, .pointer (some ⟨B1, 0, none⟩)), (9, .pointer (some ⟨B7, 0, none⟩)), (10, .int .i64 (Exp.putErr s key n now)), (11, .int .i64 ((Exp.get s key now).1)), (12, .bool ((Exp.get s key now).2)), (13, .int .i64 (Exp.getErr s key now)), (14, .pointer (some ⟨B16, 0, none⟩)), (15, .slice a12 ((Exp.sweep s now).2).length c13), (16, .int .i64 (Exp.nowErr s now)), (17, .int .i64 (Exp.next s)), (18, .int .i64 (Exp.nextErr s)), (19, .int .i64 (Exp.check s)), (20, .int .i64 (Exp.nowErr s now)), (21, .int .i64 3), (22, .int .i64 3), (23, .int .i64 t), (24, .pointer (some ⟨B20, 0, none⟩)), (25, .pointer (some ⟨B21, 0, none⟩)), (26, .slice a27 (Exp.over now s.entries).length c28), (27, .int .i64 0), (28, .bool false), (29, .int .i64 0)])
        (fun t => [⟨S23, fun w => SlR tEntry S23 w a25 c26 (Exp.live now s.entries) ∧ SlR tInt S23 w a27 c28 (Exp.over now s.entries)⟩, box B21 [.int .i64 s.life, .slice a25 (Exp.live now s.entries).length c26] 24, box B20 [.int .i64 0, .slice none 0 0] 24, box B16 [.int .i64 (((Exp.sweep s now).1).life), .slice a10 (((Exp.sweep s now).1).entries).length c11] 24, ⟨S8, fun w => SlR tEntry S8 w a10 c11 (((Exp.sweep s now).1).entries) ∧ SlR tInt S8 w a12 c13 ((Exp.sweep s now).2)⟩, box B7 [.int .i64 ((Exp.put s key n now).life), .slice a4 ((Exp.put s key n now).entries).length c5] 24, own tEntry S2 a4 c5 ((Exp.put s key n now).entries), box B1 [.int .i64 s.life, .slice as_0 s.entries.length cs_0] 24, base w0])
        (fun t => (t = 5 ∧ Exp.check s = 0 ∧ s.entries.length = 0) ∨ (t = Exp.check s ∧ (Exp.check s ≠ 0 ∨ 0 < s.entries.length)))
        (fun K hK32 => ?_) ?_
      · refine c_cond (b := (((Exp.check s) == 0) && ((s.entries.length : Int) == 0))) rfl (fun hc33 => ?_) (fun hc33 => ?_)
        · simp only [Bool.and_eq_true, beq_iff_eq] at hc33
          have hcl := hc33
          refine c_region ?_
          refine o_pure (p_assign (v := .int .i64 5) rfl) rfl rfl rfl ?_
          refine o_nil ?_
          refine q_join hK32 5 ?_ (Sub.cons rfl (Sub.cons rfl (Sub.cons rfl (Sub.cons rfl (Sub.cons rfl (Sub.cons rfl (Sub.cons rfl (Sub.cons rfl (Sub.cons rfl (Sub.cons rfl (Sub.cons rfl (Sub.cons rfl (Sub.cons rfl (Sub.cons rfl (Sub.cons rfl (Sub.cons rfl (Sub.cons rfl (Sub.cons rfl (Sub.cons rfl (Sub.cons rfl (Sub.cons rfl (Sub.cons rfl (Sub.nil _))))))))))))))))))))))) (fun _ hw => HeapIs.pick hw [0, 1, 2, 3, 4, 5, 6, 7, 8] (by decide) rfl)
          clear hK32
          first | exact .inl ⟨rfl, hcl.1, by omega⟩ | exact .inr ⟨rfl, by omega⟩
        · simp only [Bool.and_eq_false_iff, beq_eq_false_iff_ne, ne_eq] at hc33
          have hcl := hc33
          refine c_skip ?_
          refine q_join hK32 (Exp.check s) ?_ (Sub.cons rfl (Sub.cons rfl (Sub.cons rfl (Sub.cons rfl (Sub.cons rfl (Sub.cons rfl (Sub.cons rfl (Sub.cons rfl (Sub.cons rfl (Sub.cons rfl (Sub.cons rfl (Sub.cons rfl (Sub.cons rfl (Sub.cons rfl (Sub.cons rfl (Sub.cons rfl (Sub.cons rfl (Sub.cons rfl (Sub.cons rfl (Sub.cons rfl (Sub.cons rfl (Sub.cons rfl (Sub.nil _))))))))))))))))))))))) (fun _ hw => HeapIs.pick hw [0, 1, 2, 3, 4, 5, 6, 7, 8] (by decide) rfl)
          clear hK32
          first | exact .inl ⟨rfl, hcl.1, by omega⟩ | exact .inr ⟨rfl, by omega⟩
      rintro t hJ
      show SQ _ 202 w0 _ _ [(4, .pointer (some ⟨B1, 0, none⟩)), (9, .pointer (some ⟨B7, 0, none⟩)), (10, .int .i64 (Exp.putErr s key n now)), (11, .int .i64 ((Exp.get s key now).1)), (12, .bool ((Exp.get s key now).2)), (13, .int .i64 (Exp.getErr s key now)), (14, .pointer (some ⟨B16, 0, none⟩)), (15, .slice a12 ((Exp.sweep s now).2).length c13), (16, .int .i64 (Exp.nowErr s now)), (17, .int .i64 (Exp.next s)), (18, .int .i64 (Exp.nextErr s)), (19, .int .i64 (Exp.check s)), (20, .int .i64 (Exp.nowErr s now)), (21, .int .i64 3), (22, .int .i64 3), (23, .int .i64 t), (24, .pointer (some ⟨B20, 0, none⟩)), (25, .pointer (some ⟨B21, 0, none⟩)), (26, .slice a27 (Exp.over now s.entries).length c28), (27, .int .i64 0), (28, .bool false), (29, .int .i64 0)] [⟨S23, fun w => SlR tEntry S23 w a25 c26 (Exp.live now s.entries) ∧ SlR tInt S23 w a27 c28 (Exp.over now s.entries)⟩, box B21 [.int .i64 s.life, .slice a25 (Exp.live now s.entries).length c26] 24, box B20 [.int .i64 0, .slice none 0 0] 24, box B16 [.int .i64 (((Exp.sweep s now).1).life), .slice a10 (((Exp.sweep s now).1).entries).length c11] 24, ⟨S8, fun w => SlR tEntry S8 w a10 c11 (((Exp.sweep s now).1).entries) ∧ SlR tInt S8 w a12 c13 ((Exp.sweep s now).2)⟩, box B7 [.int .i64 ((Exp.put s key n now).life), .slice a4 ((Exp.put s key n now).entries).length c5] 24, own tEntry S2 a4 c5 ((Exp.put s key n now).entries), box B1 [.int .i64 s.life, .slice as_0 s.entries.length cs_0] 24, base w0]
      refine q_then ?_
      refine c_seq ?_
      refine c_seq ?_
      refine c_region ?_
      refine o_pure (p_assign (v := .int .i64 0) rfl) rfl rfl rfl ?_
      refine o_nil ?_
      refine q_then ?_
      refine c_block ?_
      refine c_loop (St := Int × Nat)
        (fun ⟨next, i⟩ => [(4, .pointer (some ⟨B1, 0, none⟩)), (9, .pointer (some ⟨B7, 0, none⟩)), (10, .int .i64 (Exp.putErr s key n now)), (11, .int .i64 ((Exp.get s key now).1)), (12, .bool ((Exp.get s key now).2)), (13, .int .i64 (Exp.getErr s key now)), (14, .pointer (some ⟨B16, 0, none⟩)), (15, .slice a12 ((Exp.sweep s now).2).length c13), (16, .int .i64 (Exp.nowErr s now)), (17, .int .i64 (Exp.next s)), (18, .int .i64 (Exp.nextErr s)), (19, .int .i64 (Exp.check s)), (20, .int .i64 (Exp.nowErr s now)), (21, .int .i64 3), (22, .int .i64 3), (23, .int .i64 t), (24, .pointer (some ⟨B20, 0, none⟩)), (25, .pointer (some ⟨B21, 0, none⟩)), (26, .slice a27 (Exp.over now s.entries).length c28), (27, .int .i64 0), (28, .bool false), (29, .int .i64 next), (30, .int .i64 (i : Int))])
        (fun ⟨next, i⟩ => [⟨S23, fun w => SlR tEntry S23 w a25 c26 (Exp.live now s.entries) ∧ SlR tInt S23 w a27 c28 (Exp.over now s.entries)⟩, box B21 [.int .i64 s.life, .slice a25 (Exp.live now s.entries).length c26] 24, box B20 [.int .i64 0, .slice none 0 0] 24, box B16 [.int .i64 (((Exp.sweep s now).1).life), .slice a10 (((Exp.sweep s now).1).entries).length c11] 24, ⟨S8, fun w => SlR tEntry S8 w a10 c11 (((Exp.sweep s now).1).entries) ∧ SlR tInt S8 w a12 c13 ((Exp.sweep s now).2)⟩, box B7 [.int .i64 ((Exp.put s key n now).life), .slice a4 ((Exp.put s key n now).entries).length c5] 24, own tEntry S2 a4 c5 ((Exp.put s key n now).entries), box B1 [.int .i64 s.life, .slice as_0 s.entries.length cs_0] 24, base w0])
        (fun ⟨next, i⟩ => i ≤ s.entries.length ∧ next = Exp.leastTo s.entries i ∧ (i = 0 ∨ Exp.check s = 0))
        (fun ⟨next, i⟩ => s.entries.length - i)
        (0, 0) ?_ (Sub.cons rfl (Sub.cons rfl (Sub.cons rfl (Sub.cons rfl (Sub.cons rfl (Sub.cons rfl (Sub.cons rfl (Sub.cons rfl (Sub.cons rfl (Sub.cons rfl (Sub.cons rfl (Sub.cons rfl (Sub.cons rfl (Sub.cons rfl (Sub.cons rfl (Sub.cons rfl (Sub.cons rfl (Sub.cons rfl (Sub.cons rfl (Sub.cons rfl (Sub.cons rfl (Sub.cons rfl (Sub.cons rfl (Sub.nil _)))))))))))))))))))))))) (fun _ hw => hw) ?_
      · exact ⟨Nat.zero_le _, rfl, .inl rfl⟩
      rintro ⟨next, i⟩ hI K hK34
      show SC _ _ Try.prog 202 w0 _ _ [(4, .pointer (some ⟨B1, 0, none⟩)), (9, .pointer (some ⟨B7, 0, none⟩)), (10, .int .i64 (Exp.putErr s key n now)), (11, .int .i64 ((Exp.get s key now).1)), (12, .bool ((Exp.get s key now).2)), (13, .int .i64 (Exp.getErr s key now)), (14, .pointer (some ⟨B16, 0, none⟩)), (15, .slice a12 ((Exp.sweep s now).2).length c13), (16, .int .i64 (Exp.nowErr s now)), (17, .int .i64 (Exp.next s)), (18, .int .i64 (Exp.nextErr s)), (19, .int .i64 (Exp.check s)), (20, .int .i64 (Exp.nowErr s now)), (21, .int .i64 3), (22, .int .i64 3), (23, .int .i64 t), (24, .pointer (some ⟨B20, 0, none⟩)), (25, .pointer (some ⟨B21, 0, none⟩)), (26, .slice a27 (Exp.over now s.entries).length c28), (27, .int .i64 0), (28, .bool false), (29, .int .i64 next), (30, .int .i64 (i : Int))] [⟨S23, fun w => SlR tEntry S23 w a25 c26 (Exp.live now s.entries) ∧ SlR tInt S23 w a27 c28 (Exp.over now s.entries)⟩, box B21 [.int .i64 s.life, .slice a25 (Exp.live now s.entries).length c26] 24, box B20 [.int .i64 0, .slice none 0 0] 24, box B16 [.int .i64 (((Exp.sweep s now).1).life), .slice a10 (((Exp.sweep s now).1).entries).length c11] 24, ⟨S8, fun w => SlR tEntry S8 w a10 c11 (((Exp.sweep s now).1).entries) ∧ SlR tInt S8 w a12 c13 ((Exp.sweep s now).2)⟩, box B7 [.int .i64 ((Exp.put s key n now).life), .slice a4 ((Exp.put s key n now).entries).length c5] 24, own tEntry S2 a4 c5 ((Exp.put s key n now).entries), box B1 [.int .i64 s.life, .slice as_0 s.entries.length cs_0] 24, base w0]
      refine c_seq ?_
      refine c_seq ?_
      refine c_region ?_
      refine o_pure (p_move (v := .int .i64 (i : Int)) rfl) rfl rfl rfl ?_
      refine o_pure (p_fieldAddr (B := B1) (j := 0) (j' := 1) rfl fo24_1 rfl) rfl rfl rfl ?_
      refine o_pure (p_load (i := 7) (v := .slice as_0 s.entries.length cs_0) rfl rfl sh22 rfl) rfl rfl rfl ?_
      refine o_pure (p_len_slice (len := s.entries.length) rfl rfl Try.underlying22) rfl rfl rfl ?_
      refine o_pure (p_lt (p := (i : Int)) (q := (s.entries.length : Int)) rfl rfl) rfl rfl rfl ?_
      refine o_pure (p_move (v := .bool (decide ((i : Int) < (s.entries.length : Int)))) rfl) rfl rfl rfl ?_
      refine o_and (p := 124) 3 (t == 0) ?_ ?_ ?_
      · intro hb35 hk
        simp only [decide_eq_true_eq] at hb35
        refine o_unguard 121 rfl rfl ?_
        refine o_pure (p_move (v := .int .i64 t) rfl) rfl rfl rfl ?_
        refine o_unguard 121 rfl rfl ?_
        refine o_pure (p_eq (p := t) (q := 0) rfl rfl) rfl rfl rfl ?_
        refine o_pure (p_pick_true (u := .bool (t == 0)) rfl rfl) rfl rfl rfl ?_
        exact o_sub (Sub.cons rfl (Sub.skip rfl (Sub.skip rfl (Sub.skip rfl (Sub.skip rfl (Sub.refl _)))))) hk
      · intro hb35 hk
        refine o_guard_no rfl 121 rfl rfl rfl rfl rfl ?_
        refine o_guard_no rfl 121 rfl rfl rfl rfl rfl ?_
        refine o_pure (p_pick_false (v := .bool false) rfl rfl) rfl rfl rfl ?_
        exact o_sub (Sub.cons rfl (Sub.skip rfl (Sub.skip rfl (Sub.skip rfl (Sub.skip rfl (Sub.refl _)))))) hk
      refine o_nil ?_
      refine q_then ?_
      refine c_cond (b := (decide ((i : Int) < (s.entries.length : Int)) && (t == 0))) rfl (fun hc36 => ?_) (fun hc36 => ?_)
      · simp only [Bool.and_eq_true, decide_eq_true_eq, beq_iff_eq] at hc36
        have hg := hc36
        have hcs : Exp.check s = 0 := by omega
        refine c_skip ?_
        refine q_then ?_
        refine c_seq ?_
        refine c_block ?_
        refine c_seq ?_
        refine c_region ?_
        refine o_pure (p_move (v := .int .i64 (i : Int)) rfl) rfl rfl rfl ?_
        refine o_pure (p_eq (p := (i : Int)) (q := 0) rfl rfl) rfl rfl rfl ?_
        refine o_pure (p_move (v := .bool ((i : Int) == 0)) rfl) rfl rfl rfl ?_
        refine o_or (p := 138) 9 (decide ((s.entries[i]).till < next)) ?_ ?_ ?_
        · intro hb37 hk
          simp only [beq_eq_false_iff_ne, ne_eq] at hb37
          refine o_unguard 129 rfl rfl ?_
          refine o_pure (p_fieldAddr (B := B1) (j := 0) (j' := 1) rfl fo24_1 rfl) rfl rfl rfl ?_
          refine o_unguard 129 rfl rfl ?_
          refine o_pure (p_load (i := 7) (v := .slice as_0 s.entries.length cs_0) rfl rfl sh22 rfl) rfl rfl rfl ?_
          refine o_unguard 129 rfl rfl ?_
          refine o_pure (p_move (v := .int .i64 (i : Int)) rfl) rfl rfl rfl ?_
          refine o_unguard 129 rfl rfl ?_
          refine o_pure (p_indexAddr (L := s.entries) (T := tEntry) (i := (i : Int)) rfl rfl (rd_base (i := 8) rfl hs_0) Try.underlying22 sz42 (by omega) (by omega)) rfl rfl rfl ?_
          refine o_unguard 129 rfl rfl ?_
          refine o_pure (p_fieldAddrE rfl fo42_2) rfl rfl rfl ?_
          refine o_unguard 129 rfl rfl ?_
          refine o_pure (p_loadF (i := i) (j := 2) (T := tEntry) (L := s.entries) (v := .int .i64 ((s.entries[i]).till)) rfl (rd_base (i := 8) rfl hs_0) (by first | assumption | omega) sh3 rfl) rfl rfl rfl ?_
          refine o_unguard 129 rfl rfl ?_
          refine o_pure (p_move (v := .int .i64 next) rfl) rfl rfl rfl ?_
          refine o_unguard 129 rfl rfl ?_
          refine o_pure (p_lt (p := (s.entries[i]).till) (q := next) rfl rfl) rfl rfl rfl ?_
          refine o_pure (p_pick_false (v := .bool (decide ((s.entries[i]).till < next))) rfl rfl) rfl rfl rfl ?_
          exact o_sub (Sub.cons rfl (Sub.skip rfl (Sub.skip rfl (Sub.skip rfl (Sub.skip rfl (Sub.skip rfl (Sub.skip rfl (Sub.skip rfl (Sub.skip rfl (Sub.skip rfl (Sub.skip rfl (Sub.refl _)))))))))))) hk
        · intro hb37 hk
          refine o_guard_no rfl 129 rfl rfl rfl rfl rfl ?_
          refine o_guard_no rfl 129 rfl rfl rfl rfl rfl ?_
          refine o_guard_no rfl 129 rfl rfl rfl rfl rfl ?_
          refine o_guard_no rfl 129 rfl rfl rfl rfl rfl ?_
          refine o_guard_no rfl 129 rfl rfl rfl rfl rfl ?_
          refine o_guard_no rfl 129 rfl rfl rfl rfl rfl ?_
          refine o_guard_no rfl 129 rfl rfl rfl rfl rfl ?_
          refine o_guard_no rfl 129 rfl rfl rfl rfl rfl ?_
          refine o_pure (p_pick_true (u := .bool true) rfl rfl) rfl rfl rfl ?_
          exact o_sub (Sub.cons rfl (Sub.skip rfl (Sub.skip rfl (Sub.skip rfl (Sub.skip rfl (Sub.skip rfl (Sub.skip rfl (Sub.skip rfl (Sub.skip rfl (Sub.skip rfl (Sub.skip rfl (Sub.refl _)))))))))))) hk
        refine o_nil ?_
        refine q_then ?_
        refine c_cond (b := (((i : Int) == 0) || decide ((s.entries[i]).till < next))) rfl (fun hc38 => ?_) (fun hc38 => ?_)
        · simp only [Bool.or_eq_true, beq_iff_eq, decide_eq_true_eq] at hc38
          refine c_region ?_
          refine o_pure (p_fieldAddr (B := B1) (j := 0) (j' := 1) rfl fo24_1 rfl) rfl rfl rfl ?_
          refine o_pure (p_load (i := 7) (v := .slice as_0 s.entries.length cs_0) rfl rfl sh22 rfl) rfl rfl rfl ?_
          refine o_pure (p_move (v := .int .i64 (i : Int)) rfl) rfl rfl rfl ?_
          refine o_pure (p_indexAddr (L := s.entries) (T := tEntry) (i := (i : Int)) rfl rfl (rd_base (i := 8) rfl hs_0) Try.underlying22 sz42 (by omega) (by omega)) rfl rfl rfl ?_
          refine o_pure (p_fieldAddrE rfl fo42_2) rfl rfl rfl ?_
          refine o_pure (p_loadF (i := i) (j := 2) (T := tEntry) (L := s.entries) (v := .int .i64 ((s.entries[i]).till)) rfl (rd_base (i := 8) rfl hs_0) (by first | assumption | omega) sh3 rfl) rfl rfl rfl ?_
          refine o_pure (p_assign (v := .int .i64 ((s.entries[i]).till)) rfl) rfl rfl rfl ?_
          refine o_nil ?_
          refine q_block_normal (q_then ?_)
          refine c_region ?_
          refine o_pure (p_move (v := .int .i64 (i : Int)) rfl) rfl rfl rfl ?_
          refine o_pure (p_addb (p := (i : Int)) (q := 1) rfl rfl (by omega)) rfl rfl rfl ?_
          refine o_pure (p_assign (v := .int .i64 ((i : Int) + 1)) rfl) rfl rfl rfl ?_
          refine o_nil ?_
          refine q_round hK34 ((s.entries[i]).till, i + 1) ?_ ?_ ?_ ?_
          · clear hK34
            first | exact ⟨by omega, (Exp.lt_next hI.2.1 (by omega)).1 (by omega), .inr hcs⟩ | exact ⟨by omega, (Exp.lt_next hI.2.1 (by omega)).2 (by omega), .inr hcs⟩
          · (try dsimp only); omega
          · exact Sub.cons rfl (Sub.cons rfl (Sub.cons rfl (Sub.cons rfl (Sub.cons rfl (Sub.cons rfl (Sub.cons rfl (Sub.cons rfl (Sub.cons rfl (Sub.cons rfl (Sub.cons rfl (Sub.cons rfl (Sub.cons rfl (Sub.cons rfl (Sub.cons rfl (Sub.cons rfl (Sub.cons rfl (Sub.cons rfl (Sub.cons rfl (Sub.cons rfl (Sub.cons rfl (Sub.cons rfl (Sub.cons rfl (Sub.nil _)))))))))))))))))))))))
          · exact fun _ hw => HeapIs.pick hw [0, 1, 2, 3, 4, 5, 6, 7, 8] (by decide) rfl
        · simp only [Bool.or_eq_false_iff, beq_eq_false_iff_ne, ne_eq, decide_eq_false_iff_not, Int.not_lt] at hc38
          refine c_skip ?_
          refine q_block_normal (q_then ?_)
          refine c_region ?_
          refine o_pure (p_move (v := .int .i64 (i : Int)) rfl) rfl rfl rfl ?_
          refine o_pure (p_addb (p := (i : Int)) (q := 1) rfl rfl (by omega)) rfl rfl rfl ?_
          refine o_pure (p_assign (v := .int .i64 ((i : Int) + 1)) rfl) rfl rfl rfl ?_
          refine o_nil ?_
          refine q_round hK34 (next, i + 1) ?_ ?_ ?_ ?_
          · clear hK34
            first | exact ⟨by omega, (Exp.lt_next hI.2.1 (by omega)).1 (by omega), .inr hcs⟩ | exact ⟨by omega, (Exp.lt_next hI.2.1 (by omega)).2 (by omega), .inr hcs⟩
          · (try dsimp only); omega
          · exact Sub.cons rfl (Sub.cons rfl (Sub.cons rfl (Sub.cons rfl (Sub.cons rfl (Sub.cons rfl (Sub.cons rfl (Sub.cons rfl (Sub.cons rfl (Sub.cons rfl (Sub.cons rfl (Sub.cons rfl (Sub.cons rfl (Sub.cons rfl (Sub.cons rfl (Sub.cons rfl (Sub.cons rfl (Sub.cons rfl (Sub.cons rfl (Sub.cons rfl (Sub.cons rfl (Sub.cons rfl (Sub.cons rfl (Sub.nil _)))))))))))))))))))))))
          · exact fun _ hw => HeapIs.pick hw [0, 1, 2, 3, 4, 5, 6, 7, 8] (by decide) rfl
      · simp only [Bool.and_eq_false_iff, decide_eq_false_iff_not, Int.not_lt, beq_eq_false_iff_ne, ne_eq] at hc36
        have hle9 := hc36
        have hnx : 0 < s.entries.length → Exp.check s = 0 → next = Exp.least s.entries := fun h1 h2 => Exp.lt_end hI.2.1 (by omega) h1
        have hn0 : i = 0 → next = 0 := fun h => by rw [hI.2.1, h]; rfl
        have hi0 := hI.1
        have hi1 := hI.2.2
        refine c_exit ?_
        refine q_then_exit (q_then_exit (q_block_exit (q_then ?_)))
        refine c_seq ?_
        refine c_region ?_
        refine o_call0 (v := .bool true) rfl (expireBegun_ok ) hf24 (fun _ _ => trivial) rfl ?_
        refine o_pure (p_move (v := .bool true) rfl) rfl rfl rfl ?_
        refine o_unguard 146 rfl rfl ?_
        refine o_pure (p_load_agg (i := 7) (vs := [.int .i64 s.life, .slice as_0 s.entries.length cs_0]) rfl rfl sh24 rfl rfl) rfl rfl rfl ?_
        refine o_unguard 146 rfl rfl ?_
        refine o_call0 (v := .int .i64 (Exp.check s)) rfl (echeck_ok s as_0 cs_0) hf25 (fun w hw => (rd_base (i := 8) rfl hs_0) w hw) rfl ?_
        refine o_unguard 146 rfl rfl ?_
        refine o_pure (p_move (v := .int .i64 (Exp.check s)) rfl) rfl rfl rfl ?_
        refine o_unguard 146 rfl rfl ?_
        refine o_pure (p_eq (p := (Exp.check s)) (q := (Exp.check s)) rfl rfl) rfl rfl rfl ?_
        refine o_pure (p_pick_true (u := .bool ((Exp.check s) == (Exp.check s))) rfl rfl) rfl rfl rfl ?_
        refine o_pure (p_move (v := .bool ((Exp.check s) == (Exp.check s))) rfl) rfl rfl rfl ?_
        refine o_and (p := 156) 4 (decide ((Exp.put s key n now) = (⟨0, []⟩ : DStore))) ?_ ?_ ?_
        · intro hb39 hk
          simp only [beq_iff_eq] at hb39
          refine o_unguard 152 rfl rfl ?_
          refine o_pure (p_load_agg (i := 5) (vs := [.int .i64 ((Exp.put s key n now).life), .slice a4 ((Exp.put s key n now).entries).length c5]) rfl rfl sh24 rfl rfl) rfl rfl rfl ?_
          refine o_unguard 152 rfl rfl ?_
          refine o_pure (p_load_agg (i := 2) (vs := [.int .i64 0, .slice none 0 0]) rfl rfl sh24 rfl rfl) rfl rfl rfl ?_
          refine o_unguard 152 rfl rfl ?_
          refine o_call0 (v := .bool (decide ((Exp.put s key n now) = (⟨0, []⟩ : DStore)))) rfl (sameLasting_ok (Exp.put s key n now) a4 c5 (⟨0, []⟩ : DStore) none 0) hf26 (fun w hw => ⟨(rd_own (i := 6) rfl) w hw, rd_nil w hw⟩) rfl ?_
          refine o_pure (p_pick_true (u := .bool (decide ((Exp.put s key n now) = (⟨0, []⟩ : DStore)))) rfl rfl) rfl rfl rfl ?_
          exact o_sub (Sub.cons rfl (Sub.skip rfl (Sub.skip rfl (Sub.skip rfl (Sub.skip rfl (Sub.skip rfl (Sub.refl _))))))) hk
        · intro hb39 hk
          refine o_guard_no rfl 152 rfl rfl rfl rfl rfl ?_
          refine o_guard_no rfl 152 rfl rfl rfl rfl rfl ?_
          refine o_guard_no rfl 152 rfl rfl rfl rfl rfl ?_
          refine o_pure (p_pick_false (v := .bool false) rfl rfl) rfl rfl rfl ?_
          exact o_sub (Sub.cons rfl (Sub.skip rfl (Sub.skip rfl (Sub.skip rfl (Sub.skip rfl (Sub.skip rfl (Sub.refl _))))))) hk
        refine o_pure (p_move (v := .bool (((Exp.check s) == (Exp.check s)) && (decide ((Exp.put s key n now) = (⟨0, []⟩ : DStore))))) rfl) rfl rfl rfl ?_
        refine o_and (p := 161) 4 ((Exp.putErr s key n now) == 3) ?_ ?_ ?_
        · intro hb40 hk
          simp only [Bool.and_eq_true, beq_iff_eq, decide_eq_true_eq] at hb40
          refine o_unguard 157 rfl rfl ?_
          refine o_pure (p_move (v := .int .i64 (Exp.putErr s key n now)) rfl) rfl rfl rfl ?_
          refine o_unguard 157 rfl rfl ?_
          refine o_pure (p_move (v := .int .i64 3) rfl) rfl rfl rfl ?_
          refine o_unguard 157 rfl rfl ?_
          refine o_pure (p_eq (p := (Exp.putErr s key n now)) (q := 3) rfl rfl) rfl rfl rfl ?_
          refine o_pure (p_pick_true (u := .bool ((Exp.putErr s key n now) == 3)) rfl rfl) rfl rfl rfl ?_
          exact o_sub (Sub.cons rfl (Sub.skip rfl (Sub.skip rfl (Sub.skip rfl (Sub.skip rfl (Sub.skip rfl (Sub.refl _))))))) hk
        · intro hb40 hk
          refine o_guard_no rfl 157 rfl rfl rfl rfl rfl ?_
          refine o_guard_no rfl 157 rfl rfl rfl rfl rfl ?_
          refine o_guard_no rfl 157 rfl rfl rfl rfl rfl ?_
          refine o_pure (p_pick_false (v := .bool false) rfl rfl) rfl rfl rfl ?_
          exact o_sub (Sub.cons rfl (Sub.skip rfl (Sub.skip rfl (Sub.skip rfl (Sub.skip rfl (Sub.skip rfl (Sub.refl _))))))) hk
        refine o_pure (p_move (v := .bool ((((Exp.check s) == (Exp.check s)) && (decide ((Exp.put s key n now) = (⟨0, []⟩ : DStore)))) && ((Exp.putErr s key n now) == 3))) rfl) rfl rfl rfl ?_
        refine o_and (p := 166) 4 (((Exp.get s key now).1) == 0) ?_ ?_ ?_
        · intro hb41 hk
          simp only [Bool.and_eq_true, beq_iff_eq, decide_eq_true_eq] at hb41
          refine o_unguard 162 rfl rfl ?_
          refine o_pure (p_move (v := .int .i64 ((Exp.get s key now).1)) rfl) rfl rfl rfl ?_
          refine o_unguard 162 rfl rfl ?_
          refine o_pure (p_move (v := .int .i64 0) rfl) rfl rfl rfl ?_
          refine o_unguard 162 rfl rfl ?_
          refine o_pure (p_eq (p := ((Exp.get s key now).1)) (q := 0) rfl rfl) rfl rfl rfl ?_
          refine o_pure (p_pick_true (u := .bool (((Exp.get s key now).1) == 0)) rfl rfl) rfl rfl rfl ?_
          exact o_sub (Sub.cons rfl (Sub.skip rfl (Sub.skip rfl (Sub.skip rfl (Sub.skip rfl (Sub.skip rfl (Sub.refl _))))))) hk
        · intro hb41 hk
          refine o_guard_no rfl 162 rfl rfl rfl rfl rfl ?_
          refine o_guard_no rfl 162 rfl rfl rfl rfl rfl ?_
          refine o_guard_no rfl 162 rfl rfl rfl rfl rfl ?_
          refine o_pure (p_pick_false (v := .bool false) rfl rfl) rfl rfl rfl ?_
          exact o_sub (Sub.cons rfl (Sub.skip rfl (Sub.skip rfl (Sub.skip rfl (Sub.skip rfl (Sub.skip rfl (Sub.refl _))))))) hk
        refine o_pure (p_move (v := .bool (((((Exp.check s) == (Exp.check s)) && (decide ((Exp.put s key n now) = (⟨0, []⟩ : DStore)))) && ((Exp.putErr s key n now) == 3)) && (((Exp.get s key now).1) == 0))) rfl) rfl rfl rfl ?_
        refine o_and (p := 171) 4 (((Exp.get s key now).2) == false) ?_ ?_ ?_
        · intro hb42 hk
          simp only [Bool.and_eq_true, beq_iff_eq, decide_eq_true_eq] at hb42
          refine o_unguard 167 rfl rfl ?_
          refine o_pure (p_move (v := .bool ((Exp.get s key now).2)) rfl) rfl rfl rfl ?_
          refine o_unguard 167 rfl rfl ?_
          refine o_pure (p_move (v := .bool false) rfl) rfl rfl rfl ?_
          refine o_unguard 167 rfl rfl ?_
          refine o_pure (p_eqBool (b := ((Exp.get s key now).2)) (c := false) rfl rfl Try.underlying4) rfl rfl rfl ?_
          refine o_pure (p_pick_true (u := .bool (((Exp.get s key now).2) == false)) rfl rfl) rfl rfl rfl ?_
          exact o_sub (Sub.cons rfl (Sub.skip rfl (Sub.skip rfl (Sub.skip rfl (Sub.skip rfl (Sub.skip rfl (Sub.refl _))))))) hk
        · intro hb42 hk
          refine o_guard_no rfl 167 rfl rfl rfl rfl rfl ?_
          refine o_guard_no rfl 167 rfl rfl rfl rfl rfl ?_
          refine o_guard_no rfl 167 rfl rfl rfl rfl rfl ?_
          refine o_pure (p_pick_false (v := .bool false) rfl rfl) rfl rfl rfl ?_
          exact o_sub (Sub.cons rfl (Sub.skip rfl (Sub.skip rfl (Sub.skip rfl (Sub.skip rfl (Sub.skip rfl (Sub.refl _))))))) hk
        refine o_pure (p_move (v := .bool ((((((Exp.check s) == (Exp.check s)) && (decide ((Exp.put s key n now) = (⟨0, []⟩ : DStore)))) && ((Exp.putErr s key n now) == 3)) && (((Exp.get s key now).1) == 0)) && (((Exp.get s key now).2) == false))) rfl) rfl rfl rfl ?_
        refine o_and (p := 176) 4 ((Exp.getErr s key now) == 3) ?_ ?_ ?_
        · intro hb43 hk
          simp only [Bool.and_eq_true, beq_iff_eq, decide_eq_true_eq] at hb43
          refine o_unguard 172 rfl rfl ?_
          refine o_pure (p_move (v := .int .i64 (Exp.getErr s key now)) rfl) rfl rfl rfl ?_
          refine o_unguard 172 rfl rfl ?_
          refine o_pure (p_move (v := .int .i64 3) rfl) rfl rfl rfl ?_
          refine o_unguard 172 rfl rfl ?_
          refine o_pure (p_eq (p := (Exp.getErr s key now)) (q := 3) rfl rfl) rfl rfl rfl ?_
          refine o_pure (p_pick_true (u := .bool ((Exp.getErr s key now) == 3)) rfl rfl) rfl rfl rfl ?_
          exact o_sub (Sub.cons rfl (Sub.skip rfl (Sub.skip rfl (Sub.skip rfl (Sub.skip rfl (Sub.skip rfl (Sub.refl _))))))) hk
        · intro hb43 hk
          refine o_guard_no rfl 172 rfl rfl rfl rfl rfl ?_
          refine o_guard_no rfl 172 rfl rfl rfl rfl rfl ?_
          refine o_guard_no rfl 172 rfl rfl rfl rfl rfl ?_
          refine o_pure (p_pick_false (v := .bool false) rfl rfl) rfl rfl rfl ?_
          exact o_sub (Sub.cons rfl (Sub.skip rfl (Sub.skip rfl (Sub.skip rfl (Sub.skip rfl (Sub.skip rfl (Sub.refl _))))))) hk
        refine o_pure (p_move (v := .bool (((((((Exp.check s) == (Exp.check s)) && (decide ((Exp.put s key n now) = (⟨0, []⟩ : DStore)))) && ((Exp.putErr s key n now) == 3)) && (((Exp.get s key now).1) == 0)) && (((Exp.get s key now).2) == false)) && ((Exp.getErr s key now) == 3))) rfl) rfl rfl rfl ?_
        refine o_and (p := 181) 4 (decide (((Exp.sweep s now).1) = (⟨s.life, Exp.live now s.entries⟩ : DStore))) ?_ ?_ ?_
        · intro hb44 hk
          simp only [Bool.and_eq_true, beq_iff_eq, decide_eq_true_eq] at hb44
          refine o_unguard 177 rfl rfl ?_
          refine o_pure (p_load_agg (i := 3) (vs := [.int .i64 (((Exp.sweep s now).1).life), .slice a10 (((Exp.sweep s now).1).entries).length c11]) rfl rfl sh24 rfl rfl) rfl rfl rfl ?_
          refine o_unguard 177 rfl rfl ?_
          refine o_pure (p_load_agg (i := 1) (vs := [.int .i64 s.life, .slice a25 (Exp.live now s.entries).length c26]) rfl rfl sh24 rfl rfl) rfl rfl rfl ?_
          refine o_unguard 177 rfl rfl ?_
          refine o_call0 (v := .bool (decide (((Exp.sweep s now).1) = (⟨s.life, Exp.live now s.entries⟩ : DStore)))) rfl (sameLasting_ok ((Exp.sweep s now).1) a10 c11 (⟨s.life, Exp.live now s.entries⟩ : DStore) a25 c26) hf26 (fun w hw => ⟨(rd_ent (i := 4) rfl (fun w h => h.1)) w hw, (rd_ent (i := 0) rfl (fun w h => h.1)) w hw⟩) rfl ?_
          refine o_pure (p_pick_true (u := .bool (decide (((Exp.sweep s now).1) = (⟨s.life, Exp.live now s.entries⟩ : DStore)))) rfl rfl) rfl rfl rfl ?_
          exact o_sub (Sub.cons rfl (Sub.skip rfl (Sub.skip rfl (Sub.skip rfl (Sub.skip rfl (Sub.skip rfl (Sub.refl _))))))) hk
        · intro hb44 hk
          refine o_guard_no rfl 177 rfl rfl rfl rfl rfl ?_
          refine o_guard_no rfl 177 rfl rfl rfl rfl rfl ?_
          refine o_guard_no rfl 177 rfl rfl rfl rfl rfl ?_
          refine o_pure (p_pick_false (v := .bool false) rfl rfl) rfl rfl rfl ?_
          exact o_sub (Sub.cons rfl (Sub.skip rfl (Sub.skip rfl (Sub.skip rfl (Sub.skip rfl (Sub.skip rfl (Sub.refl _))))))) hk
        refine o_pure (p_move (v := .bool ((((((((Exp.check s) == (Exp.check s)) && (decide ((Exp.put s key n now) = (⟨0, []⟩ : DStore)))) && ((Exp.putErr s key n now) == 3)) && (((Exp.get s key now).1) == 0)) && (((Exp.get s key now).2) == false)) && ((Exp.getErr s key now) == 3)) && (decide (((Exp.sweep s now).1) = (⟨s.life, Exp.live now s.entries⟩ : DStore))))) rfl) rfl rfl rfl ?_
        refine o_and (p := 186) 4 (Ref.sameInts ((Exp.sweep s now).2) (Exp.over now s.entries)) ?_ ?_ ?_
        · intro hb45 hk
          simp only [Bool.and_eq_true, beq_iff_eq, decide_eq_true_eq] at hb45
          refine o_unguard 182 rfl rfl ?_
          refine o_pure (p_move (v := .slice a12 ((Exp.sweep s now).2).length c13) rfl) rfl rfl rfl ?_
          refine o_unguard 182 rfl rfl ?_
          refine o_pure (p_move (v := .slice a27 (Exp.over now s.entries).length c28) rfl) rfl rfl rfl ?_
          refine o_unguard 182 rfl rfl ?_
          refine o_call0 (v := .bool (Ref.sameInts ((Exp.sweep s now).2) (Exp.over now s.entries))) rfl (sameInts_ok ((Exp.sweep s now).2) a12 c13 (Exp.over now s.entries) a27 c28) hf27 (fun w hw => ⟨(rd_ent (i := 4) rfl (fun w h => h.2)) w hw, (rd_ent (i := 0) rfl (fun w h => h.2)) w hw⟩) rfl ?_
          refine o_pure (p_pick_true (u := .bool (Ref.sameInts ((Exp.sweep s now).2) (Exp.over now s.entries))) rfl rfl) rfl rfl rfl ?_
          exact o_sub (Sub.cons rfl (Sub.skip rfl (Sub.skip rfl (Sub.skip rfl (Sub.skip rfl (Sub.skip rfl (Sub.refl _))))))) hk
        · intro hb45 hk
          refine o_guard_no rfl 182 rfl rfl rfl rfl rfl ?_
          refine o_guard_no rfl 182 rfl rfl rfl rfl rfl ?_
          refine o_guard_no rfl 182 rfl rfl rfl rfl rfl ?_
          refine o_pure (p_pick_false (v := .bool false) rfl rfl) rfl rfl rfl ?_
          exact o_sub (Sub.cons rfl (Sub.skip rfl (Sub.skip rfl (Sub.skip rfl (Sub.skip rfl (Sub.skip rfl (Sub.refl _))))))) hk
        refine o_pure (p_move (v := .bool (((((((((Exp.check s) == (Exp.check s)) && (decide ((Exp.put s key n now) = (⟨0, []⟩ : DStore)))) && ((Exp.putErr s key n now) == 3)) && (((Exp.get s key now).1) == 0)) && (((Exp.get s key now).2) == false)) && ((Exp.getErr s key now) == 3)) && (decide (((Exp.sweep s now).1) = (⟨s.life, Exp.live now s.entries⟩ : DStore)))) && (Ref.sameInts ((Exp.sweep s now).2) (Exp.over now s.entries)))) rfl) rfl rfl rfl ?_
        refine o_and (p := 191) 4 ((Exp.nowErr s now) == (Exp.nowErr s now)) ?_ ?_ ?_
        · intro hb46 hk
          simp only [Bool.and_eq_true, beq_iff_eq, decide_eq_true_eq] at hb46
          refine o_unguard 187 rfl rfl ?_
          refine o_pure (p_move (v := .int .i64 (Exp.nowErr s now)) rfl) rfl rfl rfl ?_
          refine o_unguard 187 rfl rfl ?_
          refine o_pure (p_move (v := .int .i64 (Exp.nowErr s now)) rfl) rfl rfl rfl ?_
          refine o_unguard 187 rfl rfl ?_
          refine o_pure (p_eq (p := (Exp.nowErr s now)) (q := (Exp.nowErr s now)) rfl rfl) rfl rfl rfl ?_
          refine o_pure (p_pick_true (u := .bool ((Exp.nowErr s now) == (Exp.nowErr s now))) rfl rfl) rfl rfl rfl ?_
          exact o_sub (Sub.cons rfl (Sub.skip rfl (Sub.skip rfl (Sub.skip rfl (Sub.skip rfl (Sub.skip rfl (Sub.refl _))))))) hk
        · intro hb46 hk
          refine o_guard_no rfl 187 rfl rfl rfl rfl rfl ?_
          refine o_guard_no rfl 187 rfl rfl rfl rfl rfl ?_
          refine o_guard_no rfl 187 rfl rfl rfl rfl rfl ?_
          refine o_pure (p_pick_false (v := .bool false) rfl rfl) rfl rfl rfl ?_
          exact o_sub (Sub.cons rfl (Sub.skip rfl (Sub.skip rfl (Sub.skip rfl (Sub.skip rfl (Sub.skip rfl (Sub.refl _))))))) hk
        refine o_pure (p_move (v := .bool ((((((((((Exp.check s) == (Exp.check s)) && (decide ((Exp.put s key n now) = (⟨0, []⟩ : DStore)))) && ((Exp.putErr s key n now) == 3)) && (((Exp.get s key now).1) == 0)) && (((Exp.get s key now).2) == false)) && ((Exp.getErr s key now) == 3)) && (decide (((Exp.sweep s now).1) = (⟨s.life, Exp.live now s.entries⟩ : DStore)))) && (Ref.sameInts ((Exp.sweep s now).2) (Exp.over now s.entries))) && ((Exp.nowErr s now) == (Exp.nowErr s now)))) rfl) rfl rfl rfl ?_
        refine o_and (p := 196) 4 ((Exp.next s) == next) ?_ ?_ ?_
        · intro hb47 hk
          simp only [Bool.and_eq_true, beq_iff_eq, decide_eq_true_eq] at hb47
          refine o_unguard 192 rfl rfl ?_
          refine o_pure (p_move (v := .int .i64 (Exp.next s)) rfl) rfl rfl rfl ?_
          refine o_unguard 192 rfl rfl ?_
          refine o_pure (p_move (v := .int .i64 next) rfl) rfl rfl rfl ?_
          refine o_unguard 192 rfl rfl ?_
          refine o_pure (p_eq (p := (Exp.next s)) (q := next) rfl rfl) rfl rfl rfl ?_
          refine o_pure (p_pick_true (u := .bool ((Exp.next s) == next)) rfl rfl) rfl rfl rfl ?_
          exact o_sub (Sub.cons rfl (Sub.skip rfl (Sub.skip rfl (Sub.skip rfl (Sub.skip rfl (Sub.skip rfl (Sub.refl _))))))) hk
        · intro hb47 hk
          refine o_guard_no rfl 192 rfl rfl rfl rfl rfl ?_
          refine o_guard_no rfl 192 rfl rfl rfl rfl rfl ?_
          refine o_guard_no rfl 192 rfl rfl rfl rfl rfl ?_
          refine o_pure (p_pick_false (v := .bool false) rfl rfl) rfl rfl rfl ?_
          exact o_sub (Sub.cons rfl (Sub.skip rfl (Sub.skip rfl (Sub.skip rfl (Sub.skip rfl (Sub.skip rfl (Sub.refl _))))))) hk
        refine o_pure (p_move (v := .bool (((((((((((Exp.check s) == (Exp.check s)) && (decide ((Exp.put s key n now) = (⟨0, []⟩ : DStore)))) && ((Exp.putErr s key n now) == 3)) && (((Exp.get s key now).1) == 0)) && (((Exp.get s key now).2) == false)) && ((Exp.getErr s key now) == 3)) && (decide (((Exp.sweep s now).1) = (⟨s.life, Exp.live now s.entries⟩ : DStore)))) && (Ref.sameInts ((Exp.sweep s now).2) (Exp.over now s.entries))) && ((Exp.nowErr s now) == (Exp.nowErr s now))) && ((Exp.next s) == next))) rfl) rfl rfl rfl ?_
        refine o_and (p := 201) 4 ((Exp.nextErr s) == t) ?_ ?_ ?_
        · intro hb48 hk
          simp only [Bool.and_eq_true, beq_iff_eq, decide_eq_true_eq] at hb48
          refine o_unguard 197 rfl rfl ?_
          refine o_pure (p_move (v := .int .i64 (Exp.nextErr s)) rfl) rfl rfl rfl ?_
          refine o_unguard 197 rfl rfl ?_
          refine o_pure (p_move (v := .int .i64 t) rfl) rfl rfl rfl ?_
          refine o_unguard 197 rfl rfl ?_
          refine o_pure (p_eq (p := (Exp.nextErr s)) (q := t) rfl rfl) rfl rfl rfl ?_
          refine o_pure (p_pick_true (u := .bool ((Exp.nextErr s) == t)) rfl rfl) rfl rfl rfl ?_
          exact o_sub (Sub.cons rfl (Sub.skip rfl (Sub.skip rfl (Sub.skip rfl (Sub.skip rfl (Sub.skip rfl (Sub.refl _))))))) hk
        · intro hb48 hk
          refine o_guard_no rfl 197 rfl rfl rfl rfl rfl ?_
          refine o_guard_no rfl 197 rfl rfl rfl rfl rfl ?_
          refine o_guard_no rfl 197 rfl rfl rfl rfl rfl ?_
          refine o_pure (p_pick_false (v := .bool false) rfl rfl) rfl rfl rfl ?_
          exact o_sub (Sub.cons rfl (Sub.skip rfl (Sub.skip rfl (Sub.skip rfl (Sub.skip rfl (Sub.skip rfl (Sub.refl _))))))) hk
        refine o_pure (p_assign (v := .bool ((((((((((((Exp.check s) == (Exp.check s)) && (decide ((Exp.put s key n now) = (⟨0, []⟩ : DStore)))) && ((Exp.putErr s key n now) == 3)) && (((Exp.get s key now).1) == 0)) && (((Exp.get s key now).2) == false)) && ((Exp.getErr s key now) == 3)) && (decide (((Exp.sweep s now).1) = (⟨s.life, Exp.live now s.entries⟩ : DStore)))) && (Ref.sameInts ((Exp.sweep s now).2) (Exp.over now s.entries))) && ((Exp.nowErr s now) == (Exp.nowErr s now))) && ((Exp.next s) == next)) && ((Exp.nextErr s) == t))) rfl) rfl rfl rfl ?_
        refine o_nil ?_
        refine q_then ?_
        refine c_ret ?_
        have hr0 : (((((((((((((Exp.check s) == (Exp.check s)) && (decide ((Exp.put s key n now) = (⟨0, []⟩ : DStore)))) && ((Exp.putErr s key n now) == 3)) && (((Exp.get s key now).1) == 0)) && (((Exp.get s key now).2) == false)) && ((Exp.getErr s key now) == 3)) && (decide (((Exp.sweep s now).1) = (⟨s.life, Exp.live now s.entries⟩ : DStore)))) && (Ref.sameInts ((Exp.sweep s now).2) (Exp.over now s.entries))) && ((Exp.nowErr s now) == (Exp.nowErr s now))) && ((Exp.next s) == next)) && ((Exp.nextErr s) == t)) : Bool) = true := by
          rcases hJ with ⟨j0, j1, j2⟩ | ⟨j0, j1⟩ <;> rcases Exp.spec_a s key n now with ⟨a0, a1, a2, a3, a4⟩ | ⟨a0, a5, a1, a2, a3, a4⟩ | ⟨a0, a5, a6, a1, a2, a3, a4⟩ | ⟨a0, a5, a6, a1, a2, a3, a4⟩ <;> rcases Exp.spec_b s now with ⟨b0, b1⟩ | ⟨b0, b1⟩ <;> rcases Exp.spec_c s with ⟨c0, c1, c2⟩ | ⟨c0, c3, c1, c2⟩ | ⟨c0, c3, c1, c2⟩ <;> first | (exfalso; omega) | (rw [a1, a2, a3, a4, b1, c1, c2, hnx (by omega) (by omega), j0]; simp [Exp.zero, Ref.sameInts, a0, c0]; done) | (rw [a1, a2, a3, a4, b1, c1, c2, hn0 (by omega), j0]; simp [Exp.zero, Ref.sameInts, a0, c0]; done)
        refine q_end0 (v := .bool ((((((((((((Exp.check s) == (Exp.check s)) && (decide ((Exp.put s key n now) = (⟨0, []⟩ : DStore)))) && ((Exp.putErr s key n now) == 3)) && (((Exp.get s key now).1) == 0)) && (((Exp.get s key now).2) == false)) && ((Exp.getErr s key now) == 3)) && (decide (((Exp.sweep s now).1) = (⟨s.life, Exp.live now s.entries⟩ : DStore)))) && (Ref.sameInts ((Exp.sweep s now).2) (Exp.over now s.entries))) && ((Exp.nowErr s now) == (Exp.nowErr s now))) && ((Exp.next s) == next)) && ((Exp.nextErr s) == t))) (rt1 rfl (r_tmp rfl)) (i := 8) rfl ?_
        exact (by have hcc := congrArg (fun (y0 : Bool) => (.bool y0 : Value)) hr0; exact hcc)
    · simp only [beq_eq_false_iff_ne, ne_eq] at hc22
      refine c_skip ?_
      refine q_then ?_
      refine c_seq ?_
      refine c_seq ?_
      refine c_region ?_
      refine o_pure (p_move (v := .int .i64 3) rfl) rfl rfl rfl ?_
      refine o_pure (p_eq (p := 3) (q := 0) rfl rfl) rfl rfl rfl ?_
      refine o_nil ?_
      refine q_then ?_
      refine c_false rfl ?_
      refine c_skip ?_
      refine q_then ?_
      refine c_seq ?_
      refine c_seq ?_
      refine c_region ?_
      refine o_pure (p_move (v := .int .i64 (Exp.check s)) rfl) rfl rfl rfl ?_
      refine o_pure (p_eq (p := (Exp.check s)) (q := 0) rfl rfl) rfl rfl rfl ?_
      refine o_pure (p_move (v := .bool ((Exp.check s) == 0)) rfl) rfl rfl rfl ?_
      refine o_and (p := 115) 5 ((s.entries.length : Int) == 0) ?_ ?_ ?_
      · intro hb49 hk
        simp only [beq_iff_eq] at hb49
        refine o_unguard 110 rfl rfl ?_
        refine o_pure (p_fieldAddr (B := B1) (j := 0) (j' := 1) rfl fo24_1 rfl) rfl rfl rfl ?_
        refine o_unguard 110 rfl rfl ?_
        refine o_pure (p_load (i := 6) (v := .slice as_0 s.entries.length cs_0) rfl rfl sh22 rfl) rfl rfl rfl ?_
        refine o_unguard 110 rfl rfl ?_
        refine o_pure (p_len_slice (len := s.entries.length) rfl rfl Try.underlying22) rfl rfl rfl ?_
        refine o_unguard 110 rfl rfl ?_
        refine o_pure (p_eq (p := (s.entries.length : Int)) (q := 0) rfl rfl) rfl rfl rfl ?_
        refine o_pure (p_pick_true (u := .bool ((s.entries.length : Int) == 0)) rfl rfl) rfl rfl rfl ?_
        exact o_sub (Sub.cons rfl (Sub.skip rfl (Sub.skip rfl (Sub.skip rfl (Sub.skip rfl (Sub.skip rfl (Sub.skip rfl (Sub.refl _)))))))) hk
      · intro hb49 hk
        refine o_guard_no rfl 110 rfl rfl rfl rfl rfl ?_
        refine o_guard_no rfl 110 rfl rfl rfl rfl rfl ?_
        refine o_guard_no rfl 110 rfl rfl rfl rfl rfl ?_
        refine o_guard_no rfl 110 rfl rfl rfl rfl rfl ?_
        refine o_pure (p_pick_false (v := .bool false) rfl rfl) rfl rfl rfl ?_
        exact o_sub (Sub.cons rfl (Sub.skip rfl (Sub.skip rfl (Sub.skip rfl (Sub.skip rfl (Sub.skip rfl (Sub.skip rfl (Sub.refl _)))))))) hk
      refine o_nil ?_
      refine q_then ?_
      refine c_join (G := Int)
        (fun t => [(4, .pointer (some ⟨B1, 0, none⟩)), (9, .pointer (some ⟨B7, 0, none⟩)), (10, .int .i64 (Exp.putErr s key n now)), (11, .int .i64 ((Exp.get s key now).1)), (12, .bool ((Exp.get s key now).2)), (13, .int .i64 (Exp.getErr s key now)), (14, .pointer (some ⟨B16, 0, none⟩)), (15, .slice a12 ((Exp.sweep s now).2).length c13), (16, .int .i64 (Exp.nowErr s now)), (17, .int .i64 (Exp.next s)), (18, .int .i64 (Exp.nextErr s)), (19, .int .i64 (Exp.check s)), (20, .int .i64 (Exp.nowErr s now)), (21, .int .i64 3), (22, .int .i64 3), (23, .int .i64 t), (24, .pointer (some ⟨B20, 0, none⟩)), (25, .pointer (some ⟨B21, 0, none⟩)), (26, .slice none 0 0), (27, .int .i64 0), (28, .bool false), (29, .int .i64 0)])
        (fun t => [box B21 [.int .i64 0, .slice none 0 0] 24, box B20 [.int .i64 0, .slice none 0 0] 24, box B16 [.int .i64 (((Exp.sweep s now).1).life), .slice a10 (((Exp.sweep s now).1).entries).length c11] 24, ⟨S8, fun w => SlR tEntry S8 w a10 c11 (((Exp.sweep s now).1).entries) ∧ SlR tInt S8 w a12 c13 ((Exp.sweep s now).2)⟩, box B7 [.int .i64 ((Exp.put s key n now).life), .slice a4 ((Exp.put s key n now).entries).length c5] 24, own tEntry S2 a4 c5 ((Exp.put s key n now).entries), box B1 [.int .i64 s.life, .slice as_0 s.entries.length cs_0] 24, base w0])
        (fun t => (t = 5 ∧ Exp.check s = 0 ∧ s.entries.length = 0) ∨ (t = Exp.check s ∧ (Exp.check s ≠ 0 ∨ 0 < s.entries.length)))
        (fun K hK50 => ?_) ?_
      · refine c_cond (b := (((Exp.check s) == 0) && ((s.entries.length : Int) == 0))) rfl (fun hc51 => ?_) (fun hc51 => ?_)
        · simp only [Bool.and_eq_true, beq_iff_eq] at hc51
          have hcl := hc51
          refine c_region ?_
          refine o_pure (p_assign (v := .int .i64 5) rfl) rfl rfl rfl ?_
          refine o_nil ?_
          refine q_join hK50 5 ?_ (Sub.cons rfl (Sub.cons rfl (Sub.cons rfl (Sub.cons rfl (Sub.cons rfl (Sub.cons rfl (Sub.cons rfl (Sub.cons rfl (Sub.cons rfl (Sub.cons rfl (Sub.cons rfl (Sub.cons rfl (Sub.cons rfl (Sub.cons rfl (Sub.cons rfl (Sub.cons rfl (Sub.cons rfl (Sub.cons rfl (Sub.cons rfl (Sub.cons rfl (Sub.cons rfl (Sub.cons rfl (Sub.nil _))))))))))))))))))))))) (fun _ hw => HeapIs.pick hw [0, 1, 2, 3, 4, 5, 6, 7] (by decide) rfl)
          clear hK50
          first | exact .inl ⟨rfl, hcl.1, by omega⟩ | exact .inr ⟨rfl, by omega⟩
        · simp only [Bool.and_eq_false_iff, beq_eq_false_iff_ne, ne_eq] at hc51
          have hcl := hc51
          refine c_skip ?_
          refine q_join hK50 (Exp.check s) ?_ (Sub.cons rfl (Sub.cons rfl (Sub.cons rfl (Sub.cons rfl (Sub.cons rfl (Sub.cons rfl (Sub.cons rfl (Sub.cons rfl (Sub.cons rfl (Sub.cons rfl (Sub.cons rfl (Sub.cons rfl (Sub.cons rfl (Sub.cons rfl (Sub.cons rfl (Sub.cons rfl (Sub.cons rfl (Sub.cons rfl (Sub.cons rfl (Sub.cons rfl (Sub.cons rfl (Sub.cons rfl (Sub.nil _))))))))))))))))))))))) (fun _ hw => HeapIs.pick hw [0, 1, 2, 3, 4, 5, 6, 7] (by decide) rfl)
          clear hK50
          first | exact .inl ⟨rfl, hcl.1, by omega⟩ | exact .inr ⟨rfl, by omega⟩
      rintro t hJ
      show SQ _ 202 w0 _ _ [(4, .pointer (some ⟨B1, 0, none⟩)), (9, .pointer (some ⟨B7, 0, none⟩)), (10, .int .i64 (Exp.putErr s key n now)), (11, .int .i64 ((Exp.get s key now).1)), (12, .bool ((Exp.get s key now).2)), (13, .int .i64 (Exp.getErr s key now)), (14, .pointer (some ⟨B16, 0, none⟩)), (15, .slice a12 ((Exp.sweep s now).2).length c13), (16, .int .i64 (Exp.nowErr s now)), (17, .int .i64 (Exp.next s)), (18, .int .i64 (Exp.nextErr s)), (19, .int .i64 (Exp.check s)), (20, .int .i64 (Exp.nowErr s now)), (21, .int .i64 3), (22, .int .i64 3), (23, .int .i64 t), (24, .pointer (some ⟨B20, 0, none⟩)), (25, .pointer (some ⟨B21, 0, none⟩)), (26, .slice none 0 0), (27, .int .i64 0), (28, .bool false), (29, .int .i64 0)] [box B21 [.int .i64 0, .slice none 0 0] 24, box B20 [.int .i64 0, .slice none 0 0] 24, box B16 [.int .i64 (((Exp.sweep s now).1).life), .slice a10 (((Exp.sweep s now).1).entries).length c11] 24, ⟨S8, fun w => SlR tEntry S8 w a10 c11 (((Exp.sweep s now).1).entries) ∧ SlR tInt S8 w a12 c13 ((Exp.sweep s now).2)⟩, box B7 [.int .i64 ((Exp.put s key n now).life), .slice a4 ((Exp.put s key n now).entries).length c5] 24, own tEntry S2 a4 c5 ((Exp.put s key n now).entries), box B1 [.int .i64 s.life, .slice as_0 s.entries.length cs_0] 24, base w0]
      refine q_then ?_
      refine c_seq ?_
      refine c_seq ?_
      refine c_region ?_
      refine o_pure (p_assign (v := .int .i64 0) rfl) rfl rfl rfl ?_
      refine o_nil ?_
      refine q_then ?_
      refine c_block ?_
      refine c_loop (St := Int × Nat)
        (fun ⟨next, i⟩ => [(4, .pointer (some ⟨B1, 0, none⟩)), (9, .pointer (some ⟨B7, 0, none⟩)), (10, .int .i64 (Exp.putErr s key n now)), (11, .int .i64 ((Exp.get s key now).1)), (12, .bool ((Exp.get s key now).2)), (13, .int .i64 (Exp.getErr s key now)), (14, .pointer (some ⟨B16, 0, none⟩)), (15, .slice a12 ((Exp.sweep s now).2).length c13), (16, .int .i64 (Exp.nowErr s now)), (17, .int .i64 (Exp.next s)), (18, .int .i64 (Exp.nextErr s)), (19, .int .i64 (Exp.check s)), (20, .int .i64 (Exp.nowErr s now)), (21, .int .i64 3), (22, .int .i64 3), (23, .int .i64 t), (24, .pointer (some ⟨B20, 0, none⟩)), (25, .pointer (some ⟨B21, 0, none⟩)), (26, .slice none 0 0), (27, .int .i64 0), (28, .bool false), (29, .int .i64 next), (30, .int .i64 (i : Int))])
        (fun ⟨next, i⟩ => [box B21 [.int .i64 0, .slice none 0 0] 24, box B20 [.int .i64 0, .slice none 0 0] 24, box B16 [.int .i64 (((Exp.sweep s now).1).life), .slice a10 (((Exp.sweep s now).1).entries).length c11] 24, ⟨S8, fun w => SlR tEntry S8 w a10 c11 (((Exp.sweep s now).1).entries) ∧ SlR tInt S8 w a12 c13 ((Exp.sweep s now).2)⟩, box B7 [.int .i64 ((Exp.put s key n now).life), .slice a4 ((Exp.put s key n now).entries).length c5] 24, own tEntry S2 a4 c5 ((Exp.put s key n now).entries), box B1 [.int .i64 s.life, .slice as_0 s.entries.length cs_0] 24, base w0])
        (fun ⟨next, i⟩ => i ≤ s.entries.length ∧ next = Exp.leastTo s.entries i ∧ (i = 0 ∨ Exp.check s = 0))
        (fun ⟨next, i⟩ => s.entries.length - i)
        (0, 0) ?_ (Sub.cons rfl (Sub.cons rfl (Sub.cons rfl (Sub.cons rfl (Sub.cons rfl (Sub.cons rfl (Sub.cons rfl (Sub.cons rfl (Sub.cons rfl (Sub.cons rfl (Sub.cons rfl (Sub.cons rfl (Sub.cons rfl (Sub.cons rfl (Sub.cons rfl (Sub.cons rfl (Sub.cons rfl (Sub.cons rfl (Sub.cons rfl (Sub.cons rfl (Sub.cons rfl (Sub.cons rfl (Sub.cons rfl (Sub.nil _)))))))))))))))))))))))) (fun _ hw => hw) ?_
      · exact ⟨Nat.zero_le _, rfl, .inl rfl⟩
      rintro ⟨next, i⟩ hI K hK52
      show SC _ _ Try.prog 202 w0 _ _ [(4, .pointer (some ⟨B1, 0, none⟩)), (9, .pointer (some ⟨B7, 0, none⟩)), (10, .int .i64 (Exp.putErr s key n now)), (11, .int .i64 ((Exp.get s key now).1)), (12, .bool ((Exp.get s key now).2)), (13, .int .i64 (Exp.getErr s key now)), (14, .pointer (some ⟨B16, 0, none⟩)), (15, .slice a12 ((Exp.sweep s now).2).length c13), (16, .int .i64 (Exp.nowErr s now)), (17, .int .i64 (Exp.next s)), (18, .int .i64 (Exp.nextErr s)), (19, .int .i64 (Exp.check s)), (20, .int .i64 (Exp.nowErr s now)), (21, .int .i64 3), (22, .int .i64 3), (23, .int .i64 t), (24, .pointer (some ⟨B20, 0, none⟩)), (25, .pointer (some ⟨B21, 0, none⟩)), (26, .slice none 0 0), (27, .int .i64 0), (28, .bool false), (29, .int .i64 next), (30, .int .i64 (i : Int))] [box B21 [.int .i64 0, .slice none 0 0] 24, box B20 [.int .i64 0, .slice none 0 0] 24, box B16 [.int .i64 (((Exp.sweep s now).1).life), .slice a10 (((Exp.sweep s now).1).entries).length c11] 24, ⟨S8, fun w => SlR tEntry S8 w a10 c11 (((Exp.sweep s now).1).entries) ∧ SlR tInt S8 w a12 c13 ((Exp.sweep s now).2)⟩, box B7 [.int .i64 ((Exp.put s key n now).life), .slice a4 ((Exp.put s key n now).entries).length c5] 24, own tEntry S2 a4 c5 ((Exp.put s key n now).entries), box B1 [.int .i64 s.life, .slice as_0 s.entries.length cs_0] 24, base w0]
      refine c_seq ?_
      refine c_seq ?_
      refine c_region ?_
      refine o_pure (p_move (v := .int .i64 (i : Int)) rfl) rfl rfl rfl ?_
      refine o_pure (p_fieldAddr (B := B1) (j := 0) (j' := 1) rfl fo24_1 rfl) rfl rfl rfl ?_
      refine o_pure (p_load (i := 6) (v := .slice as_0 s.entries.length cs_0) rfl rfl sh22 rfl) rfl rfl rfl ?_
      refine o_pure (p_len_slice (len := s.entries.length) rfl rfl Try.underlying22) rfl rfl rfl ?_
      refine o_pure (p_lt (p := (i : Int)) (q := (s.entries.length : Int)) rfl rfl) rfl rfl rfl ?_
      refine o_pure (p_move (v := .bool (decide ((i : Int) < (s.entries.length : Int)))) rfl) rfl rfl rfl ?_
      refine o_and (p := 124) 3 (t == 0) ?_ ?_ ?_
      · intro hb53 hk
        simp only [decide_eq_true_eq] at hb53
        refine o_unguard 121 rfl rfl ?_
        refine o_pure (p_move (v := .int .i64 t) rfl) rfl rfl rfl ?_
        refine o_unguard 121 rfl rfl ?_
        refine o_pure (p_eq (p := t) (q := 0) rfl rfl) rfl rfl rfl ?_
        refine o_pure (p_pick_true (u := .bool (t == 0)) rfl rfl) rfl rfl rfl ?_
        exact o_sub (Sub.cons rfl (Sub.skip rfl (Sub.skip rfl (Sub.skip rfl (Sub.skip rfl (Sub.refl _)))))) hk
      · intro hb53 hk
        refine o_guard_no rfl 121 rfl rfl rfl rfl rfl ?_
        refine o_guard_no rfl 121 rfl rfl rfl rfl rfl ?_
        refine o_pure (p_pick_false (v := .bool false) rfl rfl) rfl rfl rfl ?_
        exact o_sub (Sub.cons rfl (Sub.skip rfl (Sub.skip rfl (Sub.skip rfl (Sub.skip rfl (Sub.refl _)))))) hk
      refine o_nil ?_
      refine q_then ?_
      refine c_cond (b := (decide ((i : Int) < (s.entries.length : Int)) && (t == 0))) rfl (fun hc54 => ?_) (fun hc54 => ?_)
      · simp only [Bool.and_eq_true, decide_eq_true_eq, beq_iff_eq] at hc54
        have hg := hc54
        have hcs : Exp.check s = 0 := by omega
        refine c_skip ?_
        refine q_then ?_
        refine c_seq ?_
        refine c_block ?_
        refine c_seq ?_
        refine c_region ?_
        refine o_pure (p_move (v := .int .i64 (i : Int)) rfl) rfl rfl rfl ?_
        refine o_pure (p_eq (p := (i : Int)) (q := 0) rfl rfl) rfl rfl rfl ?_
        refine o_pure (p_move (v := .bool ((i : Int) == 0)) rfl) rfl rfl rfl ?_
        refine o_or (p := 138) 9 (decide ((s.entries[i]).till < next)) ?_ ?_ ?_
        · intro hb55 hk
          simp only [beq_eq_false_iff_ne, ne_eq] at hb55
          refine o_unguard 129 rfl rfl ?_
          refine o_pure (p_fieldAddr (B := B1) (j := 0) (j' := 1) rfl fo24_1 rfl) rfl rfl rfl ?_
          refine o_unguard 129 rfl rfl ?_
          refine o_pure (p_load (i := 6) (v := .slice as_0 s.entries.length cs_0) rfl rfl sh22 rfl) rfl rfl rfl ?_
          refine o_unguard 129 rfl rfl ?_
          refine o_pure (p_move (v := .int .i64 (i : Int)) rfl) rfl rfl rfl ?_
          refine o_unguard 129 rfl rfl ?_
          refine o_pure (p_indexAddr (L := s.entries) (T := tEntry) (i := (i : Int)) rfl rfl (rd_base (i := 7) rfl hs_0) Try.underlying22 sz42 (by omega) (by omega)) rfl rfl rfl ?_
          refine o_unguard 129 rfl rfl ?_
          refine o_pure (p_fieldAddrE rfl fo42_2) rfl rfl rfl ?_
          refine o_unguard 129 rfl rfl ?_
          refine o_pure (p_loadF (i := i) (j := 2) (T := tEntry) (L := s.entries) (v := .int .i64 ((s.entries[i]).till)) rfl (rd_base (i := 7) rfl hs_0) (by first | assumption | omega) sh3 rfl) rfl rfl rfl ?_
          refine o_unguard 129 rfl rfl ?_
          refine o_pure (p_move (v := .int .i64 next) rfl) rfl rfl rfl ?_
          refine o_unguard 129 rfl rfl ?_
          refine o_pure (p_lt (p := (s.entries[i]).till) (q := next) rfl rfl) rfl rfl rfl ?_
          refine o_pure (p_pick_false (v := .bool (decide ((s.entries[i]).till < next))) rfl rfl) rfl rfl rfl ?_
          exact o_sub (Sub.cons rfl (Sub.skip rfl (Sub.skip rfl (Sub.skip rfl (Sub.skip rfl (Sub.skip rfl (Sub.skip rfl (Sub.skip rfl (Sub.skip rfl (Sub.skip rfl (Sub.skip rfl (Sub.refl _)))))))))))) hk
        · intro hb55 hk
          refine o_guard_no rfl 129 rfl rfl rfl rfl rfl ?_
          refine o_guard_no rfl 129 rfl rfl rfl rfl rfl ?_
          refine o_guard_no rfl 129 rfl rfl rfl rfl rfl ?_
          refine o_guard_no rfl 129 rfl rfl rfl rfl rfl ?_
          refine o_guard_no rfl 129 rfl rfl rfl rfl rfl ?_
          refine o_guard_no rfl 129 rfl rfl rfl rfl rfl ?_
          refine o_guard_no rfl 129 rfl rfl rfl rfl rfl ?_
          refine o_guard_no rfl 129 rfl rfl rfl rfl rfl ?_
          refine o_pure (p_pick_true (u := .bool true) rfl rfl) rfl rfl rfl ?_
          exact o_sub (Sub.cons rfl (Sub.skip rfl (Sub.skip rfl (Sub.skip rfl (Sub.skip rfl (Sub.skip rfl (Sub.skip rfl (Sub.skip rfl (Sub.skip rfl (Sub.skip rfl (Sub.skip rfl (Sub.refl _)))))))))))) hk
        refine o_nil ?_
        refine q_then ?_
        refine c_cond (b := (((i : Int) == 0) || decide ((s.entries[i]).till < next))) rfl (fun hc56 => ?_) (fun hc56 => ?_)
        · simp only [Bool.or_eq_true, beq_iff_eq, decide_eq_true_eq] at hc56
          refine c_region ?_
          refine o_pure (p_fieldAddr (B := B1) (j := 0) (j' := 1) rfl fo24_1 rfl) rfl rfl rfl ?_
          refine o_pure (p_load (i := 6) (v := .slice as_0 s.entries.length cs_0) rfl rfl sh22 rfl) rfl rfl rfl ?_
          refine o_pure (p_move (v := .int .i64 (i : Int)) rfl) rfl rfl rfl ?_
          refine o_pure (p_indexAddr (L := s.entries) (T := tEntry) (i := (i : Int)) rfl rfl (rd_base (i := 7) rfl hs_0) Try.underlying22 sz42 (by omega) (by omega)) rfl rfl rfl ?_
          refine o_pure (p_fieldAddrE rfl fo42_2) rfl rfl rfl ?_
          refine o_pure (p_loadF (i := i) (j := 2) (T := tEntry) (L := s.entries) (v := .int .i64 ((s.entries[i]).till)) rfl (rd_base (i := 7) rfl hs_0) (by first | assumption | omega) sh3 rfl) rfl rfl rfl ?_
          refine o_pure (p_assign (v := .int .i64 ((s.entries[i]).till)) rfl) rfl rfl rfl ?_
          refine o_nil ?_
          refine q_block_normal (q_then ?_)
          refine c_region ?_
          refine o_pure (p_move (v := .int .i64 (i : Int)) rfl) rfl rfl rfl ?_
          refine o_pure (p_addb (p := (i : Int)) (q := 1) rfl rfl (by omega)) rfl rfl rfl ?_
          refine o_pure (p_assign (v := .int .i64 ((i : Int) + 1)) rfl) rfl rfl rfl ?_
          refine o_nil ?_
          refine q_round hK52 ((s.entries[i]).till, i + 1) ?_ ?_ ?_ ?_
          · clear hK52
            first | exact ⟨by omega, (Exp.lt_next hI.2.1 (by omega)).1 (by omega), .inr hcs⟩ | exact ⟨by omega, (Exp.lt_next hI.2.1 (by omega)).2 (by omega), .inr hcs⟩
          · (try dsimp only); omega
          · exact Sub.cons rfl (Sub.cons rfl (Sub.cons rfl (Sub.cons rfl (Sub.cons rfl (Sub.cons rfl (Sub.cons rfl (Sub.cons rfl (Sub.cons rfl (Sub.cons rfl (Sub.cons rfl (Sub.cons rfl (Sub.cons rfl (Sub.cons rfl (Sub.cons rfl (Sub.cons rfl (Sub.cons rfl (Sub.cons rfl (Sub.cons rfl (Sub.cons rfl (Sub.cons rfl (Sub.cons rfl (Sub.cons rfl (Sub.nil _)))))))))))))))))))))))
          · exact fun _ hw => HeapIs.pick hw [0, 1, 2, 3, 4, 5, 6, 7] (by decide) rfl
        · simp only [Bool.or_eq_false_iff, beq_eq_false_iff_ne, ne_eq, decide_eq_false_iff_not, Int.not_lt] at hc56
          refine c_skip ?_
          refine q_block_normal (q_then ?_)
          refine c_region ?_
          refine o_pure (p_move (v := .int .i64 (i : Int)) rfl) rfl rfl rfl ?_
          refine o_pure (p_addb (p := (i : Int)) (q := 1) rfl rfl (by omega)) rfl rfl rfl ?_
          refine o_pure (p_assign (v := .int .i64 ((i : Int) + 1)) rfl) rfl rfl rfl ?_
          refine o_nil ?_
          refine q_round hK52 (next, i + 1) ?_ ?_ ?_ ?_
          · clear hK52
            first | exact ⟨by omega, (Exp.lt_next hI.2.1 (by omega)).1 (by omega), .inr hcs⟩ | exact ⟨by omega, (Exp.lt_next hI.2.1 (by omega)).2 (by omega), .inr hcs⟩
          · (try dsimp only); omega
          · exact Sub.cons rfl (Sub.cons rfl (Sub.cons rfl (Sub.cons rfl (Sub.cons rfl (Sub.cons rfl (Sub.cons rfl (Sub.cons rfl (Sub.cons rfl (Sub.cons rfl (Sub.cons rfl (Sub.cons rfl (Sub.cons rfl (Sub.cons rfl (Sub.cons rfl (Sub.cons rfl (Sub.cons rfl (Sub.cons rfl (Sub.cons rfl (Sub.cons rfl (Sub.cons rfl (Sub.cons rfl (Sub.cons rfl (Sub.nil _)))))))))))))))))))))))
          · exact fun _ hw => HeapIs.pick hw [0, 1, 2, 3, 4, 5, 6, 7] (by decide) rfl
      · simp only [Bool.and_eq_false_iff, decide_eq_false_iff_not, Int.not_lt, beq_eq_false_iff_ne, ne_eq] at hc54
        have hle9 := hc54
        have hnx : 0 < s.entries.length → Exp.check s = 0 → next = Exp.least s.entries := fun h1 h2 => Exp.lt_end hI.2.1 (by omega) h1
        have hn0 : i = 0 → next = 0 := fun h => by rw [hI.2.1, h]; rfl
        have hi0 := hI.1
        have hi1 := hI.2.2
        refine c_exit ?_
        refine q_then_exit (q_then_exit (q_block_exit (q_then ?_)))
        refine c_seq ?_
        refine c_region ?_
        refine o_call0 (v := .bool true) rfl (expireBegun_ok ) hf24 (fun _ _ => trivial) rfl ?_
        refine o_pure (p_move (v := .bool true) rfl) rfl rfl rfl ?_
        refine o_unguard 146 rfl rfl ?_
        refine o_pure (p_load_agg (i := 6) (vs := [.int .i64 s.life, .slice as_0 s.entries.length cs_0]) rfl rfl sh24 rfl rfl) rfl rfl rfl ?_
        refine o_unguard 146 rfl rfl ?_
        refine o_call0 (v := .int .i64 (Exp.check s)) rfl (echeck_ok s as_0 cs_0) hf25 (fun w hw => (rd_base (i := 7) rfl hs_0) w hw) rfl ?_
        refine o_unguard 146 rfl rfl ?_
        refine o_pure (p_move (v := .int .i64 (Exp.check s)) rfl) rfl rfl rfl ?_
        refine o_unguard 146 rfl rfl ?_
        refine o_pure (p_eq (p := (Exp.check s)) (q := (Exp.check s)) rfl rfl) rfl rfl rfl ?_
        refine o_pure (p_pick_true (u := .bool ((Exp.check s) == (Exp.check s))) rfl rfl) rfl rfl rfl ?_
        refine o_pure (p_move (v := .bool ((Exp.check s) == (Exp.check s))) rfl) rfl rfl rfl ?_
        refine o_and (p := 156) 4 (decide ((Exp.put s key n now) = (⟨0, []⟩ : DStore))) ?_ ?_ ?_
        · intro hb57 hk
          simp only [beq_iff_eq] at hb57
          refine o_unguard 152 rfl rfl ?_
          refine o_pure (p_load_agg (i := 4) (vs := [.int .i64 ((Exp.put s key n now).life), .slice a4 ((Exp.put s key n now).entries).length c5]) rfl rfl sh24 rfl rfl) rfl rfl rfl ?_
          refine o_unguard 152 rfl rfl ?_
          refine o_pure (p_load_agg (i := 1) (vs := [.int .i64 0, .slice none 0 0]) rfl rfl sh24 rfl rfl) rfl rfl rfl ?_
          refine o_unguard 152 rfl rfl ?_
          refine o_call0 (v := .bool (decide ((Exp.put s key n now) = (⟨0, []⟩ : DStore)))) rfl (sameLasting_ok (Exp.put s key n now) a4 c5 (⟨0, []⟩ : DStore) none 0) hf26 (fun w hw => ⟨(rd_own (i := 5) rfl) w hw, rd_nil w hw⟩) rfl ?_
          refine o_pure (p_pick_true (u := .bool (decide ((Exp.put s key n now) = (⟨0, []⟩ : DStore)))) rfl rfl) rfl rfl rfl ?_
          exact o_sub (Sub.cons rfl (Sub.skip rfl (Sub.skip rfl (Sub.skip rfl (Sub.skip rfl (Sub.skip rfl (Sub.refl _))))))) hk
        · intro hb57 hk
          refine o_guard_no rfl 152 rfl rfl rfl rfl rfl ?_
          refine o_guard_no rfl 152 rfl rfl rfl rfl rfl ?_
          refine o_guard_no rfl 152 rfl rfl rfl rfl rfl ?_
          refine o_pure (p_pick_false (v := .bool false) rfl rfl) rfl rfl rfl ?_
          exact o_sub (Sub.cons rfl (Sub.skip rfl (Sub.skip rfl (Sub.skip rfl (Sub.skip rfl (Sub.skip rfl (Sub.refl _))))))) hk
        refine o_pure (p_move (v := .bool (((Exp.check s) == (Exp.check s)) && (decide ((Exp.put s key n now) = (⟨0, []⟩ : DStore))))) rfl) rfl rfl rfl ?_
        refine o_and (p := 161) 4 ((Exp.putErr s key n now) == 3) ?_ ?_ ?_
        · intro hb58 hk
          simp only [Bool.and_eq_true, beq_iff_eq, decide_eq_true_eq] at hb58
          refine o_unguard 157 rfl rfl ?_
          refine o_pure (p_move (v := .int .i64 (Exp.putErr s key n now)) rfl) rfl rfl rfl ?_
          refine o_unguard 157 rfl rfl ?_
          refine o_pure (p_move (v := .int .i64 3) rfl) rfl rfl rfl ?_
          refine o_unguard 157 rfl rfl ?_
          refine o_pure (p_eq (p := (Exp.putErr s key n now)) (q := 3) rfl rfl) rfl rfl rfl ?_
          refine o_pure (p_pick_true (u := .bool ((Exp.putErr s key n now) == 3)) rfl rfl) rfl rfl rfl ?_
          exact o_sub (Sub.cons rfl (Sub.skip rfl (Sub.skip rfl (Sub.skip rfl (Sub.skip rfl (Sub.skip rfl (Sub.refl _))))))) hk
        · intro hb58 hk
          refine o_guard_no rfl 157 rfl rfl rfl rfl rfl ?_
          refine o_guard_no rfl 157 rfl rfl rfl rfl rfl ?_
          refine o_guard_no rfl 157 rfl rfl rfl rfl rfl ?_
          refine o_pure (p_pick_false (v := .bool false) rfl rfl) rfl rfl rfl ?_
          exact o_sub (Sub.cons rfl (Sub.skip rfl (Sub.skip rfl (Sub.skip rfl (Sub.skip rfl (Sub.skip rfl (Sub.refl _))))))) hk
        refine o_pure (p_move (v := .bool ((((Exp.check s) == (Exp.check s)) && (decide ((Exp.put s key n now) = (⟨0, []⟩ : DStore)))) && ((Exp.putErr s key n now) == 3))) rfl) rfl rfl rfl ?_
        refine o_and (p := 166) 4 (((Exp.get s key now).1) == 0) ?_ ?_ ?_
        · intro hb59 hk
          simp only [Bool.and_eq_true, beq_iff_eq, decide_eq_true_eq] at hb59
          refine o_unguard 162 rfl rfl ?_
          refine o_pure (p_move (v := .int .i64 ((Exp.get s key now).1)) rfl) rfl rfl rfl ?_
          refine o_unguard 162 rfl rfl ?_
          refine o_pure (p_move (v := .int .i64 0) rfl) rfl rfl rfl ?_
          refine o_unguard 162 rfl rfl ?_
          refine o_pure (p_eq (p := ((Exp.get s key now).1)) (q := 0) rfl rfl) rfl rfl rfl ?_
          refine o_pure (p_pick_true (u := .bool (((Exp.get s key now).1) == 0)) rfl rfl) rfl rfl rfl ?_
          exact o_sub (Sub.cons rfl (Sub.skip rfl (Sub.skip rfl (Sub.skip rfl (Sub.skip rfl (Sub.skip rfl (Sub.refl _))))))) hk
        · intro hb59 hk
          refine o_guard_no rfl 162 rfl rfl rfl rfl rfl ?_
          refine o_guard_no rfl 162 rfl rfl rfl rfl rfl ?_
          refine o_guard_no rfl 162 rfl rfl rfl rfl rfl ?_
          refine o_pure (p_pick_false (v := .bool false) rfl rfl) rfl rfl rfl ?_
          exact o_sub (Sub.cons rfl (Sub.skip rfl (Sub.skip rfl (Sub.skip rfl (Sub.skip rfl (Sub.skip rfl (Sub.refl _))))))) hk
        refine o_pure (p_move (v := .bool (((((Exp.check s) == (Exp.check s)) && (decide ((Exp.put s key n now) = (⟨0, []⟩ : DStore)))) && ((Exp.putErr s key n now) == 3)) && (((Exp.get s key now).1) == 0))) rfl) rfl rfl rfl ?_
        refine o_and (p := 171) 4 (((Exp.get s key now).2) == false) ?_ ?_ ?_
        · intro hb60 hk
          simp only [Bool.and_eq_true, beq_iff_eq, decide_eq_true_eq] at hb60
          refine o_unguard 167 rfl rfl ?_
          refine o_pure (p_move (v := .bool ((Exp.get s key now).2)) rfl) rfl rfl rfl ?_
          refine o_unguard 167 rfl rfl ?_
          refine o_pure (p_move (v := .bool false) rfl) rfl rfl rfl ?_
          refine o_unguard 167 rfl rfl ?_
          refine o_pure (p_eqBool (b := ((Exp.get s key now).2)) (c := false) rfl rfl Try.underlying4) rfl rfl rfl ?_
          refine o_pure (p_pick_true (u := .bool (((Exp.get s key now).2) == false)) rfl rfl) rfl rfl rfl ?_
          exact o_sub (Sub.cons rfl (Sub.skip rfl (Sub.skip rfl (Sub.skip rfl (Sub.skip rfl (Sub.skip rfl (Sub.refl _))))))) hk
        · intro hb60 hk
          refine o_guard_no rfl 167 rfl rfl rfl rfl rfl ?_
          refine o_guard_no rfl 167 rfl rfl rfl rfl rfl ?_
          refine o_guard_no rfl 167 rfl rfl rfl rfl rfl ?_
          refine o_pure (p_pick_false (v := .bool false) rfl rfl) rfl rfl rfl ?_
          exact o_sub (Sub.cons rfl (Sub.skip rfl (Sub.skip rfl (Sub.skip rfl (Sub.skip rfl (Sub.skip rfl (Sub.refl _))))))) hk
        refine o_pure (p_move (v := .bool ((((((Exp.check s) == (Exp.check s)) && (decide ((Exp.put s key n now) = (⟨0, []⟩ : DStore)))) && ((Exp.putErr s key n now) == 3)) && (((Exp.get s key now).1) == 0)) && (((Exp.get s key now).2) == false))) rfl) rfl rfl rfl ?_
        refine o_and (p := 176) 4 ((Exp.getErr s key now) == 3) ?_ ?_ ?_
        · intro hb61 hk
          simp only [Bool.and_eq_true, beq_iff_eq, decide_eq_true_eq] at hb61
          refine o_unguard 172 rfl rfl ?_
          refine o_pure (p_move (v := .int .i64 (Exp.getErr s key now)) rfl) rfl rfl rfl ?_
          refine o_unguard 172 rfl rfl ?_
          refine o_pure (p_move (v := .int .i64 3) rfl) rfl rfl rfl ?_
          refine o_unguard 172 rfl rfl ?_
          refine o_pure (p_eq (p := (Exp.getErr s key now)) (q := 3) rfl rfl) rfl rfl rfl ?_
          refine o_pure (p_pick_true (u := .bool ((Exp.getErr s key now) == 3)) rfl rfl) rfl rfl rfl ?_
          exact o_sub (Sub.cons rfl (Sub.skip rfl (Sub.skip rfl (Sub.skip rfl (Sub.skip rfl (Sub.skip rfl (Sub.refl _))))))) hk
        · intro hb61 hk
          refine o_guard_no rfl 172 rfl rfl rfl rfl rfl ?_
          refine o_guard_no rfl 172 rfl rfl rfl rfl rfl ?_
          refine o_guard_no rfl 172 rfl rfl rfl rfl rfl ?_
          refine o_pure (p_pick_false (v := .bool false) rfl rfl) rfl rfl rfl ?_
          exact o_sub (Sub.cons rfl (Sub.skip rfl (Sub.skip rfl (Sub.skip rfl (Sub.skip rfl (Sub.skip rfl (Sub.refl _))))))) hk
        refine o_pure (p_move (v := .bool (((((((Exp.check s) == (Exp.check s)) && (decide ((Exp.put s key n now) = (⟨0, []⟩ : DStore)))) && ((Exp.putErr s key n now) == 3)) && (((Exp.get s key now).1) == 0)) && (((Exp.get s key now).2) == false)) && ((Exp.getErr s key now) == 3))) rfl) rfl rfl rfl ?_
        refine o_and (p := 181) 4 (decide (((Exp.sweep s now).1) = (⟨0, []⟩ : DStore))) ?_ ?_ ?_
        · intro hb62 hk
          simp only [Bool.and_eq_true, beq_iff_eq, decide_eq_true_eq] at hb62
          refine o_unguard 177 rfl rfl ?_
          refine o_pure (p_load_agg (i := 2) (vs := [.int .i64 (((Exp.sweep s now).1).life), .slice a10 (((Exp.sweep s now).1).entries).length c11]) rfl rfl sh24 rfl rfl) rfl rfl rfl ?_
          refine o_unguard 177 rfl rfl ?_
          refine o_pure (p_load_agg (i := 0) (vs := [.int .i64 0, .slice none 0 0]) rfl rfl sh24 rfl rfl) rfl rfl rfl ?_
          refine o_unguard 177 rfl rfl ?_
          refine o_call0 (v := .bool (decide (((Exp.sweep s now).1) = (⟨0, []⟩ : DStore)))) rfl (sameLasting_ok ((Exp.sweep s now).1) a10 c11 (⟨0, []⟩ : DStore) none 0) hf26 (fun w hw => ⟨(rd_ent (i := 3) rfl (fun w h => h.1)) w hw, rd_nil w hw⟩) rfl ?_
          refine o_pure (p_pick_true (u := .bool (decide (((Exp.sweep s now).1) = (⟨0, []⟩ : DStore)))) rfl rfl) rfl rfl rfl ?_
          exact o_sub (Sub.cons rfl (Sub.skip rfl (Sub.skip rfl (Sub.skip rfl (Sub.skip rfl (Sub.skip rfl (Sub.refl _))))))) hk
        · intro hb62 hk
          refine o_guard_no rfl 177 rfl rfl rfl rfl rfl ?_
          refine o_guard_no rfl 177 rfl rfl rfl rfl rfl ?_
          refine o_guard_no rfl 177 rfl rfl rfl rfl rfl ?_
          refine o_pure (p_pick_false (v := .bool false) rfl rfl) rfl rfl rfl ?_
          exact o_sub (Sub.cons rfl (Sub.skip rfl (Sub.skip rfl (Sub.skip rfl (Sub.skip rfl (Sub.skip rfl (Sub.refl _))))))) hk
        refine o_pure (p_move (v := .bool ((((((((Exp.check s) == (Exp.check s)) && (decide ((Exp.put s key n now) = (⟨0, []⟩ : DStore)))) && ((Exp.putErr s key n now) == 3)) && (((Exp.get s key now).1) == 0)) && (((Exp.get s key now).2) == false)) && ((Exp.getErr s key now) == 3)) && (decide (((Exp.sweep s now).1) = (⟨0, []⟩ : DStore))))) rfl) rfl rfl rfl ?_
        refine o_and (p := 186) 4 (Ref.sameInts ((Exp.sweep s now).2) []) ?_ ?_ ?_
        · intro hb63 hk
          simp only [Bool.and_eq_true, beq_iff_eq, decide_eq_true_eq] at hb63
          refine o_unguard 182 rfl rfl ?_
          refine o_pure (p_move (v := .slice a12 ((Exp.sweep s now).2).length c13) rfl) rfl rfl rfl ?_
          refine o_unguard 182 rfl rfl ?_
          refine o_pure (p_move (v := .slice none 0 0) rfl) rfl rfl rfl ?_
          refine o_unguard 182 rfl rfl ?_
          refine o_call0 (v := .bool (Ref.sameInts ((Exp.sweep s now).2) [])) rfl (sameInts_ok ((Exp.sweep s now).2) a12 c13 [] none 0) hf27 (fun w hw => ⟨(rd_ent (i := 3) rfl (fun w h => h.2)) w hw, rd_nil w hw⟩) rfl ?_
          refine o_pure (p_pick_true (u := .bool (Ref.sameInts ((Exp.sweep s now).2) [])) rfl rfl) rfl rfl rfl ?_
          exact o_sub (Sub.cons rfl (Sub.skip rfl (Sub.skip rfl (Sub.skip rfl (Sub.skip rfl (Sub.skip rfl (Sub.refl _))))))) hk
        · intro hb63 hk
          refine o_guard_no rfl 182 rfl rfl rfl rfl rfl ?_
          refine o_guard_no rfl 182 rfl rfl rfl rfl rfl ?_
          refine o_guard_no rfl 182 rfl rfl rfl rfl rfl ?_
          refine o_pure (p_pick_false (v := .bool false) rfl rfl) rfl rfl rfl ?_
          exact o_sub (Sub.cons rfl (Sub.skip rfl (Sub.skip rfl (Sub.skip rfl (Sub.skip rfl (Sub.skip rfl (Sub.refl _))))))) hk
        refine o_pure (p_move (v := .bool (((((((((Exp.check s) == (Exp.check s)) && (decide ((Exp.put s key n now) = (⟨0, []⟩ : DStore)))) && ((Exp.putErr s key n now) == 3)) && (((Exp.get s key now).1) == 0)) && (((Exp.get s key now).2) == false)) && ((Exp.getErr s key now) == 3)) && (decide (((Exp.sweep s now).1) = (⟨0, []⟩ : DStore)))) && (Ref.sameInts ((Exp.sweep s now).2) []))) rfl) rfl rfl rfl ?_
        refine o_and (p := 191) 4 ((Exp.nowErr s now) == (Exp.nowErr s now)) ?_ ?_ ?_
        · intro hb64 hk
          simp only [Bool.and_eq_true, beq_iff_eq, decide_eq_true_eq] at hb64
          refine o_unguard 187 rfl rfl ?_
          refine o_pure (p_move (v := .int .i64 (Exp.nowErr s now)) rfl) rfl rfl rfl ?_
          refine o_unguard 187 rfl rfl ?_
          refine o_pure (p_move (v := .int .i64 (Exp.nowErr s now)) rfl) rfl rfl rfl ?_
          refine o_unguard 187 rfl rfl ?_
          refine o_pure (p_eq (p := (Exp.nowErr s now)) (q := (Exp.nowErr s now)) rfl rfl) rfl rfl rfl ?_
          refine o_pure (p_pick_true (u := .bool ((Exp.nowErr s now) == (Exp.nowErr s now))) rfl rfl) rfl rfl rfl ?_
          exact o_sub (Sub.cons rfl (Sub.skip rfl (Sub.skip rfl (Sub.skip rfl (Sub.skip rfl (Sub.skip rfl (Sub.refl _))))))) hk
        · intro hb64 hk
          refine o_guard_no rfl 187 rfl rfl rfl rfl rfl ?_
          refine o_guard_no rfl 187 rfl rfl rfl rfl rfl ?_
          refine o_guard_no rfl 187 rfl rfl rfl rfl rfl ?_
          refine o_pure (p_pick_false (v := .bool false) rfl rfl) rfl rfl rfl ?_
          exact o_sub (Sub.cons rfl (Sub.skip rfl (Sub.skip rfl (Sub.skip rfl (Sub.skip rfl (Sub.skip rfl (Sub.refl _))))))) hk
        refine o_pure (p_move (v := .bool ((((((((((Exp.check s) == (Exp.check s)) && (decide ((Exp.put s key n now) = (⟨0, []⟩ : DStore)))) && ((Exp.putErr s key n now) == 3)) && (((Exp.get s key now).1) == 0)) && (((Exp.get s key now).2) == false)) && ((Exp.getErr s key now) == 3)) && (decide (((Exp.sweep s now).1) = (⟨0, []⟩ : DStore)))) && (Ref.sameInts ((Exp.sweep s now).2) [])) && ((Exp.nowErr s now) == (Exp.nowErr s now)))) rfl) rfl rfl rfl ?_
        refine o_and (p := 196) 4 ((Exp.next s) == next) ?_ ?_ ?_
        · intro hb65 hk
          simp only [Bool.and_eq_true, beq_iff_eq, decide_eq_true_eq] at hb65
          refine o_unguard 192 rfl rfl ?_
          refine o_pure (p_move (v := .int .i64 (Exp.next s)) rfl) rfl rfl rfl ?_
          refine o_unguard 192 rfl rfl ?_
          refine o_pure (p_move (v := .int .i64 next) rfl) rfl rfl rfl ?_
          refine o_unguard 192 rfl rfl ?_
          refine o_pure (p_eq (p := (Exp.next s)) (q := next) rfl rfl) rfl rfl rfl ?_
          refine o_pure (p_pick_true (u := .bool ((Exp.next s) == next)) rfl rfl) rfl rfl rfl ?_
          exact o_sub (Sub.cons rfl (Sub.skip rfl (Sub.skip rfl (Sub.skip rfl (Sub.skip rfl (Sub.skip rfl (Sub.refl _))))))) hk
        · intro hb65 hk
          refine o_guard_no rfl 192 rfl rfl rfl rfl rfl ?_
          refine o_guard_no rfl 192 rfl rfl rfl rfl rfl ?_
          refine o_guard_no rfl 192 rfl rfl rfl rfl rfl ?_
          refine o_pure (p_pick_false (v := .bool false) rfl rfl) rfl rfl rfl ?_
          exact o_sub (Sub.cons rfl (Sub.skip rfl (Sub.skip rfl (Sub.skip rfl (Sub.skip rfl (Sub.skip rfl (Sub.refl _))))))) hk
        refine o_pure (p_move (v := .bool (((((((((((Exp.check s) == (Exp.check s)) && (decide ((Exp.put s key n now) = (⟨0, []⟩ : DStore)))) && ((Exp.putErr s key n now) == 3)) && (((Exp.get s key now).1) == 0)) && (((Exp.get s key now).2) == false)) && ((Exp.getErr s key now) == 3)) && (decide (((Exp.sweep s now).1) = (⟨0, []⟩ : DStore)))) && (Ref.sameInts ((Exp.sweep s now).2) [])) && ((Exp.nowErr s now) == (Exp.nowErr s now))) && ((Exp.next s) == next))) rfl) rfl rfl rfl ?_
        refine o_and (p := 201) 4 ((Exp.nextErr s) == t) ?_ ?_ ?_
        · intro hb66 hk
          simp only [Bool.and_eq_true, beq_iff_eq, decide_eq_true_eq] at hb66
          refine o_unguard 197 rfl rfl ?_
          refine o_pure (p_move (v := .int .i64 (Exp.nextErr s)) rfl) rfl rfl rfl ?_
          refine o_unguard 197 rfl rfl ?_
          refine o_pure (p_move (v := .int .i64 t) rfl) rfl rfl rfl ?_
          refine o_unguard 197 rfl rfl ?_
          refine o_pure (p_eq (p := (Exp.nextErr s)) (q := t) rfl rfl) rfl rfl rfl ?_
          refine o_pure (p_pick_true (u := .bool ((Exp.nextErr s) == t)) rfl rfl) rfl rfl rfl ?_
          exact o_sub (Sub.cons rfl (Sub.skip rfl (Sub.skip rfl (Sub.skip rfl (Sub.skip rfl (Sub.skip rfl (Sub.refl _))))))) hk
        · intro hb66 hk
          refine o_guard_no rfl 197 rfl rfl rfl rfl rfl ?_
          refine o_guard_no rfl 197 rfl rfl rfl rfl rfl ?_
          refine o_guard_no rfl 197 rfl rfl rfl rfl rfl ?_
          refine o_pure (p_pick_false (v := .bool false) rfl rfl) rfl rfl rfl ?_
          exact o_sub (Sub.cons rfl (Sub.skip rfl (Sub.skip rfl (Sub.skip rfl (Sub.skip rfl (Sub.skip rfl (Sub.refl _))))))) hk
        refine o_pure (p_assign (v := .bool ((((((((((((Exp.check s) == (Exp.check s)) && (decide ((Exp.put s key n now) = (⟨0, []⟩ : DStore)))) && ((Exp.putErr s key n now) == 3)) && (((Exp.get s key now).1) == 0)) && (((Exp.get s key now).2) == false)) && ((Exp.getErr s key now) == 3)) && (decide (((Exp.sweep s now).1) = (⟨0, []⟩ : DStore)))) && (Ref.sameInts ((Exp.sweep s now).2) [])) && ((Exp.nowErr s now) == (Exp.nowErr s now))) && ((Exp.next s) == next)) && ((Exp.nextErr s) == t))) rfl) rfl rfl rfl ?_
        refine o_nil ?_
        refine q_then ?_
        refine c_ret ?_
        have hr0 : (((((((((((((Exp.check s) == (Exp.check s)) && (decide ((Exp.put s key n now) = (⟨0, []⟩ : DStore)))) && ((Exp.putErr s key n now) == 3)) && (((Exp.get s key now).1) == 0)) && (((Exp.get s key now).2) == false)) && ((Exp.getErr s key now) == 3)) && (decide (((Exp.sweep s now).1) = (⟨0, []⟩ : DStore)))) && (Ref.sameInts ((Exp.sweep s now).2) [])) && ((Exp.nowErr s now) == (Exp.nowErr s now))) && ((Exp.next s) == next)) && ((Exp.nextErr s) == t)) : Bool) = true := by
          rcases hJ with ⟨j0, j1, j2⟩ | ⟨j0, j1⟩ <;> rcases Exp.spec_a s key n now with ⟨a0, a1, a2, a3, a4⟩ | ⟨a0, a5, a1, a2, a3, a4⟩ | ⟨a0, a5, a6, a1, a2, a3, a4⟩ | ⟨a0, a5, a6, a1, a2, a3, a4⟩ <;> rcases Exp.spec_b s now with ⟨b0, b1⟩ | ⟨b0, b1⟩ <;> rcases Exp.spec_c s with ⟨c0, c1, c2⟩ | ⟨c0, c3, c1, c2⟩ | ⟨c0, c3, c1, c2⟩ <;> first | (exfalso; omega) | (rw [a1, a2, a3, a4, b1, c1, c2, hnx (by omega) (by omega), j0]; simp [Exp.zero, Ref.sameInts, a0, c0]; done) | (rw [a1, a2, a3, a4, b1, c1, c2, hn0 (by omega), j0]; simp [Exp.zero, Ref.sameInts, a0, c0]; done)
        refine q_end0 (v := .bool ((((((((((((Exp.check s) == (Exp.check s)) && (decide ((Exp.put s key n now) = (⟨0, []⟩ : DStore)))) && ((Exp.putErr s key n now) == 3)) && (((Exp.get s key now).1) == 0)) && (((Exp.get s key now).2) == false)) && ((Exp.getErr s key now) == 3)) && (decide (((Exp.sweep s now).1) = (⟨0, []⟩ : DStore)))) && (Ref.sameInts ((Exp.sweep s now).2) [])) && ((Exp.nowErr s now) == (Exp.nowErr s now))) && ((Exp.next s) == next)) && ((Exp.nextErr s) == t))) (rt1 rfl (r_tmp rfl)) (i := 7) rfl ?_
        exact (by have hcc := congrArg (fun (y0 : Bool) => (.bool y0 : Value)) hr0; exact hcc)
  · simp only [Bool.and_eq_false_iff, beq_eq_false_iff_ne, ne_eq, Bool.or_eq_false_iff, decide_eq_false_iff_not, Int.not_lt] at hc19
    refine c_skip ?_
    refine q_then ?_
    refine c_seq ?_
    refine c_region ?_
    refine o_pure (p_move (v := .int .i64 (Exp.nowErr s now)) rfl) rfl rfl rfl ?_
    refine o_pure (p_move (v := .int .i64 (Exp.check s)) rfl) rfl rfl rfl ?_
    refine o_pure (p_assign (v := .int .i64 (Exp.nowErr s now)) rfl) rfl rfl rfl ?_
    refine o_pure (p_assign (v := .int .i64 (Exp.check s)) rfl) rfl rfl rfl ?_
    refine o_nil ?_
    refine q_then ?_
    refine c_seq ?_
    refine c_region ?_
    refine o_alloc ze24 rfl (fun B67 => ?_)
    refine o_alloc ze24 rfl (fun B68 => ?_)
    refine o_nil ?_
    refine q_then ?_
    refine c_seq ?_
    refine c_region ?_
    refine o_pure (p_assign (v := .slice none 0 0) rfl) rfl rfl rfl ?_
    refine o_nil ?_
    refine q_then ?_
    refine c_seq ?_
    refine c_region ?_
    refine o_pure (p_assign (v := .int .i64 0) rfl) rfl rfl rfl ?_
    refine o_pure (p_assign (v := .bool false) rfl) rfl rfl rfl ?_
    refine o_pure (p_assign (v := .int .i64 0) rfl) rfl rfl rfl ?_
    refine o_nil ?_
    refine q_then ?_
    refine c_seq ?_
    refine c_seq ?_
    refine c_region ?_
    refine o_pure (p_move (v := .int .i64 (Exp.nowErr s now)) rfl) rfl rfl rfl ?_
    refine o_pure (p_eq (p := (Exp.nowErr s now)) (q := 0) rfl rfl) rfl rfl rfl ?_
    refine o_nil ?_
    refine q_then ?_
    refine c_cond (b := ((Exp.nowErr s now) == 0)) rfl (fun hc69 => ?_) (fun hc69 => ?_)
    · simp only [beq_iff_eq] at hc69
      have hok := (Exp.now_ok hc69).1
      have hnw := (Exp.now_ok hc69).2
      have hlen := hok.len
      refine c_region ?_
      refine o_pure (p_load_agg (i := 6) (vs := [.int .i64 s.life, .slice as_0 s.entries.length cs_0]) rfl rfl sh24 rfl rfl) rfl rfl rfl ?_
      refine o_pure (p_move (v := .int .i64 now) rfl) rfl rfl rfl ?_
      refine o_callM rfl (lastSweep_ok s as_0 cs_0 now (by omega)) hf21 (fun w hw => (rd_base (i := 7) rfl hs_0) w hw) rfl (fun _ _ _ _ ha hA => ⟨SlR.agree ha hA.1, SlR.agree ha hA.2⟩) ?_
      rintro ⟨a72, c73, a74, c75⟩ S70
      refine o_know (fun w hw => (hw.at (i := 0) rfl).here.1.2.1) (fun hlr76 => ?_)
      refine o_know (fun w hw => (hw.at (i := 0) rfl).here.2.2.1) (fun hlr77 => ?_)
      refine o_pure (p_move (v := .tuple #[.agg #[.int .i64 s.life, .slice a72 (Exp.live now s.entries).length c73], .slice a74 (Exp.over now s.entries).length c75]) rfl) rfl rfl rfl ?_
      refine o_pure (p_extract (vs := [.agg #[.int .i64 s.life, .slice a72 (Exp.live now s.entries).length c73], .slice a74 (Exp.over now s.entries).length c75]) (v := .agg #[.int .i64 s.life, .slice a72 (Exp.live now s.entries).length c73]) rfl rfl) rfl rfl rfl ?_
      refine o_pure (p_extract (vs := [.agg #[.int .i64 s.life, .slice a72 (Exp.live now s.entries).length c73], .slice a74 (Exp.over now s.entries).length c75]) (v := .slice a74 (Exp.over now s.entries).length c75) rfl rfl) rfl rfl rfl ?_
      refine o_storeN (i := 1) (vs := [.int .i64 s.life, .slice a72 (Exp.live now s.entries).length c73]) (cs' := [.int .i64 s.life, .slice a72 (Exp.live now s.entries).length c73]) rfl rfl rfl sz24 rfl rfl rfl rfl ?_
      refine o_pure (p_assign (v := .slice a74 (Exp.over now s.entries).length c75) rfl) rfl rfl rfl ?_
      refine o_nil ?_
      refine q_then ?_
      refine c_seq ?_
      refine c_seq ?_
      refine c_region ?_
      refine o_pure (p_move (v := .int .i64 (Exp.nowErr s now)) rfl) rfl rfl rfl ?_
      refine o_pure (p_eq (p := (Exp.nowErr s now)) (q := 0) rfl rfl) rfl rfl rfl ?_
      refine o_nil ?_
      refine q_then ?_
      refine c_cond (b := ((Exp.nowErr s now) == 0)) rfl (fun hc78 => ?_) (fun hc78 => ?_)
      · simp only [beq_iff_eq] at hc78
        refine c_seq ?_
        refine c_region ?_
        refine o_pure (p_load_agg (i := 7) (vs := [.int .i64 s.life, .slice as_0 s.entries.length cs_0]) rfl rfl sh24 rfl rfl) rfl rfl rfl ?_
        refine o_pure (p_move (v := .int .i64 key) rfl) rfl rfl rfl ?_
        refine o_pure (p_move (v := .int .i64 now) rfl) rfl rfl rfl ?_
        refine o_call0 (v := .tuple #[.int .i64 ((Exp.getGo s.entries key now).1), .bool ((Exp.getGo s.entries key now).2)]) rfl (lastGet_ok s as_0 cs_0 key now (by first | assumption | exact hok)) hf22 (fun w hw => (rd_base (i := 8) rfl hs_0) w hw) rfl ?_
        refine o_pure (p_move (v := .tuple #[.int .i64 ((Exp.getGo s.entries key now).1), .bool ((Exp.getGo s.entries key now).2)]) rfl) rfl rfl rfl ?_
        refine o_pure (p_extract (vs := [.int .i64 ((Exp.getGo s.entries key now).1), .bool ((Exp.getGo s.entries key now).2)]) (v := .int .i64 ((Exp.getGo s.entries key now).1)) rfl rfl) rfl rfl rfl ?_
        refine o_pure (p_extract (vs := [.int .i64 ((Exp.getGo s.entries key now).1), .bool ((Exp.getGo s.entries key now).2)]) (v := .bool ((Exp.getGo s.entries key now).2)) rfl rfl) rfl rfl rfl ?_
        refine o_pure (p_assign (v := .int .i64 ((Exp.getGo s.entries key now).1)) rfl) rfl rfl rfl ?_
        refine o_pure (p_assign (v := .bool ((Exp.getGo s.entries key now).2)) rfl) rfl rfl rfl ?_
        refine o_nil ?_
        refine q_then ?_
        refine c_seq ?_
        refine c_region ?_
        refine o_pure (p_move (v := .int .i64 n) rfl) rfl rfl rfl ?_
        refine o_pure (p_lt (p := n) (q := (-1099511627776)) rfl rfl) rfl rfl rfl ?_
        refine o_pure (p_move (v := .bool (decide (n < (-1099511627776)))) rfl) rfl rfl rfl ?_
        refine o_or (p := 99) 3 (decide (1099511627776 < n)) ?_ ?_ ?_
        · intro hb79 hk
          simp only [decide_eq_false_iff_not, Int.not_lt] at hb79
          refine o_unguard 96 rfl rfl ?_
          refine o_pure (p_move (v := .int .i64 n) rfl) rfl rfl rfl ?_
          refine o_unguard 96 rfl rfl ?_
          refine o_pure (p_gt (p := n) (q := 1099511627776) rfl rfl) rfl rfl rfl ?_
          refine o_pure (p_pick_false (v := .bool (decide (1099511627776 < n))) rfl rfl) rfl rfl rfl ?_
          exact o_sub (Sub.cons rfl (Sub.skip rfl (Sub.skip rfl (Sub.skip rfl (Sub.skip rfl (Sub.refl _)))))) hk
        · intro hb79 hk
          refine o_guard_no rfl 96 rfl rfl rfl rfl rfl ?_
          refine o_guard_no rfl 96 rfl rfl rfl rfl rfl ?_
          refine o_pure (p_pick_true (u := .bool true) rfl rfl) rfl rfl rfl ?_
          exact o_sub (Sub.cons rfl (Sub.skip rfl (Sub.skip rfl (Sub.skip rfl (Sub.skip rfl (Sub.refl _)))))) hk
        refine o_nil ?_
        refine q_then ?_
        refine c_cond (b := (decide (n < (-1099511627776)) || decide (1099511627776 < n))) rfl (fun hc80 => ?_) (fun hc80 => ?_)
        · simp only [Bool.or_eq_true, decide_eq_true_eq] at hc80
          refine c_region ?_
          refine o_pure (p_assign (v := .int .i64 3) rfl) rfl rfl rfl ?_
          refine o_nil ?_
          refine q_then ?_
          refine c_seq ?_
          refine c_seq ?_
          refine c_region ?_
          refine o_pure (p_move (v := .int .i64 (Exp.check s)) rfl) rfl rfl rfl ?_
          refine o_pure (p_eq (p := (Exp.check s)) (q := 0) rfl rfl) rfl rfl rfl ?_
          refine o_pure (p_move (v := .bool ((Exp.check s) == 0)) rfl) rfl rfl rfl ?_
          refine o_and (p := 115) 5 ((s.entries.length : Int) == 0) ?_ ?_ ?_
          · intro hb81 hk
            simp only [beq_iff_eq] at hb81
            refine o_unguard 110 rfl rfl ?_
            refine o_pure (p_fieldAddr (B := B1) (j := 0) (j' := 1) rfl fo24_1 rfl) rfl rfl rfl ?_
            refine o_unguard 110 rfl rfl ?_
            refine o_pure (p_load (i := 7) (v := .slice as_0 s.entries.length cs_0) rfl rfl sh22 rfl) rfl rfl rfl ?_
            refine o_unguard 110 rfl rfl ?_
            refine o_pure (p_len_slice (len := s.entries.length) rfl rfl Try.underlying22) rfl rfl rfl ?_
            refine o_unguard 110 rfl rfl ?_
            refine o_pure (p_eq (p := (s.entries.length : Int)) (q := 0) rfl rfl) rfl rfl rfl ?_
            refine o_pure (p_pick_true (u := .bool ((s.entries.length : Int) == 0)) rfl rfl) rfl rfl rfl ?_
            exact o_sub (Sub.cons rfl (Sub.skip rfl (Sub.skip rfl (Sub.skip rfl (Sub.skip rfl (Sub.skip rfl (Sub.skip rfl (Sub.refl _)))))))) hk
          · intro hb81 hk
            refine o_guard_no rfl 110 rfl rfl rfl rfl rfl ?_
            refine o_guard_no rfl 110 rfl rfl rfl rfl rfl ?_
            refine o_guard_no rfl 110 rfl rfl rfl rfl rfl ?_
            refine o_guard_no rfl 110 rfl rfl rfl rfl rfl ?_
            refine o_pure (p_pick_false (v := .bool false) rfl rfl) rfl rfl rfl ?_
            exact o_sub (Sub.cons rfl (Sub.skip rfl (Sub.skip rfl (Sub.skip rfl (Sub.skip rfl (Sub.skip rfl (Sub.skip rfl (Sub.refl _)))))))) hk
          refine o_nil ?_
          refine q_then ?_
          refine c_join (G := Int)
            (fun t => [(4, .pointer (some ⟨B1, 0, none⟩)), (9, .pointer (some ⟨B7, 0, none⟩)), (10, .int .i64 (Exp.putErr s key n now)), (11, .int .i64 ((Exp.get s key now).1)), (12, .bool ((Exp.get s key now).2)), (13, .int .i64 (Exp.getErr s key now)), (14, .pointer (some ⟨B16, 0, none⟩)), (15, .slice a12 ((Exp.sweep s now).2).length c13), (16, .int .i64 (Exp.nowErr s now)), (17, .int .i64 (Exp.next s)), (18, .int .i64 (Exp.nextErr s)), (19, .int .i64 (Exp.check s)), (20, .int .i64 (Exp.nowErr s now)), (21, .int .i64 (Exp.nowErr s now)), (22, .int .i64 3), (23, .int .i64 t), (24, .pointer (some ⟨B67, 0, none⟩)), (25, .pointer (some ⟨B68, 0, none⟩)), (26, .slice a74 (Exp.over now s.entries).length c75), (27, .int .i64 ((Exp.getGo s.entries key now).1)), (28, .bool ((Exp.getGo s.entries key now).2)), (29, .int .i64 0)])
            (fun t => [⟨S70, fun w => SlR tEntry S70 w a72 c73 (Exp.live now s.entries) ∧ SlR tInt S70 w a74 c75 (Exp.over now s.entries)⟩, box B68 [.int .i64 s.life, .slice a72 (Exp.live now s.entries).length c73] 24, box B67 [.int .i64 0, .slice none 0 0] 24, box B16 [.int .i64 (((Exp.sweep s now).1).life), .slice a10 (((Exp.sweep s now).1).entries).length c11] 24, ⟨S8, fun w => SlR tEntry S8 w a10 c11 (((Exp.sweep s now).1).entries) ∧ SlR tInt S8 w a12 c13 ((Exp.sweep s now).2)⟩, box B7 [.int .i64 ((Exp.put s key n now).life), .slice a4 ((Exp.put s key n now).entries).length c5] 24, own tEntry S2 a4 c5 ((Exp.put s key n now).entries), box B1 [.int .i64 s.life, .slice as_0 s.entries.length cs_0] 24, base w0])
            (fun t => (t = 5 ∧ Exp.check s = 0 ∧ s.entries.length = 0) ∨ (t = Exp.check s ∧ (Exp.check s ≠ 0 ∨ 0 < s.entries.length)))
            (fun K hK82 => ?_) ?_
          · refine c_cond (b := (((Exp.check s) == 0) && ((s.entries.length : Int) == 0))) rfl (fun hc83 => ?_) (fun hc83 => ?_)
            · simp only [Bool.and_eq_true, beq_iff_eq] at hc83
              have hcl := hc83
              refine c_region ?_
              refine o_pure (p_assign (v := .int .i64 5) rfl) rfl rfl rfl ?_
              refine o_nil ?_
              refine q_join hK82 5 ?_ (Sub.cons rfl (Sub.cons rfl (Sub.cons rfl (Sub.cons rfl (Sub.cons rfl (Sub.cons rfl (Sub.cons rfl (Sub.cons rfl (Sub.cons rfl (Sub.cons rfl (Sub.cons rfl (Sub.cons rfl (Sub.cons rfl (Sub.cons rfl (Sub.cons rfl (Sub.cons rfl (Sub.cons rfl (Sub.cons rfl (Sub.cons rfl (Sub.cons rfl (Sub.cons rfl (Sub.cons rfl (Sub.nil _))))))))))))))))))))))) (fun _ hw => HeapIs.pick hw [0, 1, 2, 3, 4, 5, 6, 7, 8] (by decide) rfl)
              clear hK82
              first | exact .inl ⟨rfl, hcl.1, by omega⟩ | exact .inr ⟨rfl, by omega⟩
            · simp only [Bool.and_eq_false_iff, beq_eq_false_iff_ne, ne_eq] at hc83
              have hcl := hc83
              refine c_skip ?_
              refine q_join hK82 (Exp.check s) ?_ (Sub.cons rfl (Sub.cons rfl (Sub.cons rfl (Sub.cons rfl (Sub.cons rfl (Sub.cons rfl (Sub.cons rfl (Sub.cons rfl (Sub.cons rfl (Sub.cons rfl (Sub.cons rfl (Sub.cons rfl (Sub.cons rfl (Sub.cons rfl (Sub.cons rfl (Sub.cons rfl (Sub.cons rfl (Sub.cons rfl (Sub.cons rfl (Sub.cons rfl (Sub.cons rfl (Sub.cons rfl (Sub.nil _))))))))))))))))))))))) (fun _ hw => HeapIs.pick hw [0, 1, 2, 3, 4, 5, 6, 7, 8] (by decide) rfl)
              clear hK82
              first | exact .inl ⟨rfl, hcl.1, by omega⟩ | exact .inr ⟨rfl, by omega⟩
          rintro t hJ
          show SQ _ 202 w0 _ _ [(4, .pointer (some ⟨B1, 0, none⟩)), (9, .pointer (some ⟨B7, 0, none⟩)), (10, .int .i64 (Exp.putErr s key n now)), (11, .int .i64 ((Exp.get s key now).1)), (12, .bool ((Exp.get s key now).2)), (13, .int .i64 (Exp.getErr s key now)), (14, .pointer (some ⟨B16, 0, none⟩)), (15, .slice a12 ((Exp.sweep s now).2).length c13), (16, .int .i64 (Exp.nowErr s now)), (17, .int .i64 (Exp.next s)), (18, .int .i64 (Exp.nextErr s)), (19, .int .i64 (Exp.check s)), (20, .int .i64 (Exp.nowErr s now)), (21, .int .i64 (Exp.nowErr s now)), (22, .int .i64 3), (23, .int .i64 t), (24, .pointer (some ⟨B67, 0, none⟩)), (25, .pointer (some ⟨B68, 0, none⟩)), (26, .slice a74 (Exp.over now s.entries).length c75), (27, .int .i64 ((Exp.getGo s.entries key now).1)), (28, .bool ((Exp.getGo s.entries key now).2)), (29, .int .i64 0)] [⟨S70, fun w => SlR tEntry S70 w a72 c73 (Exp.live now s.entries) ∧ SlR tInt S70 w a74 c75 (Exp.over now s.entries)⟩, box B68 [.int .i64 s.life, .slice a72 (Exp.live now s.entries).length c73] 24, box B67 [.int .i64 0, .slice none 0 0] 24, box B16 [.int .i64 (((Exp.sweep s now).1).life), .slice a10 (((Exp.sweep s now).1).entries).length c11] 24, ⟨S8, fun w => SlR tEntry S8 w a10 c11 (((Exp.sweep s now).1).entries) ∧ SlR tInt S8 w a12 c13 ((Exp.sweep s now).2)⟩, box B7 [.int .i64 ((Exp.put s key n now).life), .slice a4 ((Exp.put s key n now).entries).length c5] 24, own tEntry S2 a4 c5 ((Exp.put s key n now).entries), box B1 [.int .i64 s.life, .slice as_0 s.entries.length cs_0] 24, base w0]
          refine q_then ?_
          refine c_seq ?_
          refine c_seq ?_
          refine c_region ?_
          refine o_pure (p_assign (v := .int .i64 0) rfl) rfl rfl rfl ?_
          refine o_nil ?_
          refine q_then ?_
          refine c_block ?_
          refine c_loop (St := Int × Nat)
            (fun ⟨next, i⟩ => [(4, .pointer (some ⟨B1, 0, none⟩)), (9, .pointer (some ⟨B7, 0, none⟩)), (10, .int .i64 (Exp.putErr s key n now)), (11, .int .i64 ((Exp.get s key now).1)), (12, .bool ((Exp.get s key now).2)), (13, .int .i64 (Exp.getErr s key now)), (14, .pointer (some ⟨B16, 0, none⟩)), (15, .slice a12 ((Exp.sweep s now).2).length c13), (16, .int .i64 (Exp.nowErr s now)), (17, .int .i64 (Exp.next s)), (18, .int .i64 (Exp.nextErr s)), (19, .int .i64 (Exp.check s)), (20, .int .i64 (Exp.nowErr s now)), (21, .int .i64 (Exp.nowErr s now)), (22, .int .i64 3), (23, .int .i64 t), (24, .pointer (some ⟨B67, 0, none⟩)), (25, .pointer (some ⟨B68, 0, none⟩)), (26, .slice a74 (Exp.over now s.entries).length c75), (27, .int .i64 ((Exp.getGo s.entries key now).1)), (28, .bool ((Exp.getGo s.entries key now).2)), (29, .int .i64 next), (30, .int .i64 (i : Int))])
            (fun ⟨next, i⟩ => [⟨S70, fun w => SlR tEntry S70 w a72 c73 (Exp.live now s.entries) ∧ SlR tInt S70 w a74 c75 (Exp.over now s.entries)⟩, box B68 [.int .i64 s.life, .slice a72 (Exp.live now s.entries).length c73] 24, box B67 [.int .i64 0, .slice none 0 0] 24, box B16 [.int .i64 (((Exp.sweep s now).1).life), .slice a10 (((Exp.sweep s now).1).entries).length c11] 24, ⟨S8, fun w => SlR tEntry S8 w a10 c11 (((Exp.sweep s now).1).entries) ∧ SlR tInt S8 w a12 c13 ((Exp.sweep s now).2)⟩, box B7 [.int .i64 ((Exp.put s key n now).life), .slice a4 ((Exp.put s key n now).entries).length c5] 24, own tEntry S2 a4 c5 ((Exp.put s key n now).entries), box B1 [.int .i64 s.life, .slice as_0 s.entries.length cs_0] 24, base w0])
            (fun ⟨next, i⟩ => i ≤ s.entries.length ∧ next = Exp.leastTo s.entries i ∧ (i = 0 ∨ Exp.check s = 0))
            (fun ⟨next, i⟩ => s.entries.length - i)
            (0, 0) ?_ (Sub.cons rfl (Sub.cons rfl (Sub.cons rfl (Sub.cons rfl (Sub.cons rfl (Sub.cons rfl (Sub.cons rfl (Sub.cons rfl (Sub.cons rfl (Sub.cons rfl (Sub.cons rfl (Sub.cons rfl (Sub.cons rfl (Sub.cons rfl (Sub.cons rfl (Sub.cons rfl (Sub.cons rfl (Sub.cons rfl (Sub.cons rfl (Sub.cons rfl (Sub.cons rfl (Sub.cons rfl (Sub.cons rfl (Sub.nil _)))))))))))))))))))))))) (fun _ hw => hw) ?_
          · exact ⟨Nat.zero_le _, rfl, .inl rfl⟩
          rintro ⟨next, i⟩ hI K hK84
          show SC _ _ Try.prog 202 w0 _ _ [(4, .pointer (some ⟨B1, 0, none⟩)), (9, .pointer (some ⟨B7, 0, none⟩)), (10, .int .i64 (Exp.putErr s key n now)), (11, .int .i64 ((Exp.get s key now).1)), (12, .bool ((Exp.get s key now).2)), (13, .int .i64 (Exp.getErr s key now)), (14, .pointer (some ⟨B16, 0, none⟩)), (15, .slice a12 ((Exp.sweep s now).2).length c13), (16, .int .i64 (Exp.nowErr s now)), (17, .int .i64 (Exp.next s)), (18, .int .i64 (Exp.nextErr s)), (19, .int .i64 (Exp.check s)), (20, .int .i64 (Exp.nowErr s now)), (21, .int .i64 (Exp.nowErr s now)), (22, .int .i64 3), (23, .int .i64 t), (24, .pointer (some ⟨B67, 0, none⟩)), (25, .pointer (some ⟨B68, 0, none⟩)), (26, .slice a74 (Exp.over now s.entries).length c75), (27, .int .i64 ((Exp.getGo s.entries key now).1)), (28, .bool ((Exp.getGo s.entries key now).2)), (29, .int .i64 next), (30, .int .i64 (i : Int))] [⟨S70, fun w => SlR tEntry S70 w a72 c73 (Exp.live now s.entries) ∧ SlR tInt S70 w a74 c75 (Exp.over now s.entries)⟩, box B68 [.int .i64 s.life, .slice a72 (Exp.live now s.entries).length c73] 24, box B67 [.int .i64 0, .slice none 0 0] 24, box B16 [.int .i64 (((Exp.sweep s now).1).life), .slice a10 (((Exp.sweep s now).1).entries).length c11] 24, ⟨S8, fun w => SlR tEntry S8 w a10 c11 (((Exp.sweep s now).1).entries) ∧ SlR tInt S8 w a12 c13 ((Exp.sweep s now).2)⟩, box B7 [.int .i64 ((Exp.put s key n now).life), .slice a4 ((Exp.put s key n now).entries).length c5] 24, own tEntry S2 a4 c5 ((Exp.put s key n now).entries), box B1 [.int .i64 s.life, .slice as_0 s.entries.length cs_0] 24, base w0]
          refine c_seq ?_
          refine c_seq ?_
          refine c_region ?_
          refine o_pure (p_move (v := .int .i64 (i : Int)) rfl) rfl rfl rfl ?_
          refine o_pure (p_fieldAddr (B := B1) (j := 0) (j' := 1) rfl fo24_1 rfl) rfl rfl rfl ?_
          refine o_pure (p_load (i := 7) (v := .slice as_0 s.entries.length cs_0) rfl rfl sh22 rfl) rfl rfl rfl ?_
          refine o_pure (p_len_slice (len := s.entries.length) rfl rfl Try.underlying22) rfl rfl rfl ?_
          refine o_pure (p_lt (p := (i : Int)) (q := (s.entries.length : Int)) rfl rfl) rfl rfl rfl ?_
          refine o_pure (p_move (v := .bool (decide ((i : Int) < (s.entries.length : Int)))) rfl) rfl rfl rfl ?_
          refine o_and (p := 124) 3 (t == 0) ?_ ?_ ?_
          · intro hb85 hk
            simp only [decide_eq_true_eq] at hb85
            refine o_unguard 121 rfl rfl ?_
            refine o_pure (p_move (v := .int .i64 t) rfl) rfl rfl rfl ?_
            refine o_unguard 121 rfl rfl ?_
            refine o_pure (p_eq (p := t) (q := 0) rfl rfl) rfl rfl rfl ?_
            refine o_pure (p_pick_true (u := .bool (t == 0)) rfl rfl) rfl rfl rfl ?_
            exact o_sub (Sub.cons rfl (Sub.skip rfl (Sub.skip rfl (Sub.skip rfl (Sub.skip rfl (Sub.refl _)))))) hk
          · intro hb85 hk
            refine o_guard_no rfl 121 rfl rfl rfl rfl rfl ?_
            refine o_guard_no rfl 121 rfl rfl rfl rfl rfl ?_
            refine o_pure (p_pick_false (v := .bool false) rfl rfl) rfl rfl rfl ?_
            exact o_sub (Sub.cons rfl (Sub.skip rfl (Sub.skip rfl (Sub.skip rfl (Sub.skip rfl (Sub.refl _)))))) hk
          refine o_nil ?_
          refine q_then ?_
          refine c_cond (b := (decide ((i : Int) < (s.entries.length : Int)) && (t == 0))) rfl (fun hc86 => ?_) (fun hc86 => ?_)
          · simp only [Bool.and_eq_true, decide_eq_true_eq, beq_iff_eq] at hc86
            have hg := hc86
            have hcs : Exp.check s = 0 := by omega
            refine c_skip ?_
            refine q_then ?_
            refine c_seq ?_
            refine c_block ?_
            refine c_seq ?_
            refine c_region ?_
            refine o_pure (p_move (v := .int .i64 (i : Int)) rfl) rfl rfl rfl ?_
            refine o_pure (p_eq (p := (i : Int)) (q := 0) rfl rfl) rfl rfl rfl ?_
            refine o_pure (p_move (v := .bool ((i : Int) == 0)) rfl) rfl rfl rfl ?_
            refine o_or (p := 138) 9 (decide ((s.entries[i]).till < next)) ?_ ?_ ?_
            · intro hb87 hk
              simp only [beq_eq_false_iff_ne, ne_eq] at hb87
              refine o_unguard 129 rfl rfl ?_
              refine o_pure (p_fieldAddr (B := B1) (j := 0) (j' := 1) rfl fo24_1 rfl) rfl rfl rfl ?_
              refine o_unguard 129 rfl rfl ?_
              refine o_pure (p_load (i := 7) (v := .slice as_0 s.entries.length cs_0) rfl rfl sh22 rfl) rfl rfl rfl ?_
              refine o_unguard 129 rfl rfl ?_
              refine o_pure (p_move (v := .int .i64 (i : Int)) rfl) rfl rfl rfl ?_
              refine o_unguard 129 rfl rfl ?_
              refine o_pure (p_indexAddr (L := s.entries) (T := tEntry) (i := (i : Int)) rfl rfl (rd_base (i := 8) rfl hs_0) Try.underlying22 sz42 (by omega) (by omega)) rfl rfl rfl ?_
              refine o_unguard 129 rfl rfl ?_
              refine o_pure (p_fieldAddrE rfl fo42_2) rfl rfl rfl ?_
              refine o_unguard 129 rfl rfl ?_
              refine o_pure (p_loadF (i := i) (j := 2) (T := tEntry) (L := s.entries) (v := .int .i64 ((s.entries[i]).till)) rfl (rd_base (i := 8) rfl hs_0) (by first | assumption | omega) sh3 rfl) rfl rfl rfl ?_
              refine o_unguard 129 rfl rfl ?_
              refine o_pure (p_move (v := .int .i64 next) rfl) rfl rfl rfl ?_
              refine o_unguard 129 rfl rfl ?_
              refine o_pure (p_lt (p := (s.entries[i]).till) (q := next) rfl rfl) rfl rfl rfl ?_
              refine o_pure (p_pick_false (v := .bool (decide ((s.entries[i]).till < next))) rfl rfl) rfl rfl rfl ?_
              exact o_sub (Sub.cons rfl (Sub.skip rfl (Sub.skip rfl (Sub.skip rfl (Sub.skip rfl (Sub.skip rfl (Sub.skip rfl (Sub.skip rfl (Sub.skip rfl (Sub.skip rfl (Sub.skip rfl (Sub.refl _)))))))))))) hk
            · intro hb87 hk
              refine o_guard_no rfl 129 rfl rfl rfl rfl rfl ?_
              refine o_guard_no rfl 129 rfl rfl rfl rfl rfl ?_
              refine o_guard_no rfl 129 rfl rfl rfl rfl rfl ?_
              refine o_guard_no rfl 129 rfl rfl rfl rfl rfl ?_
              refine o_guard_no rfl 129 rfl rfl rfl rfl rfl ?_
              refine o_guard_no rfl 129 rfl rfl rfl rfl rfl ?_
              refine o_guard_no rfl 129 rfl rfl rfl rfl rfl ?_
              refine o_guard_no rfl 129 rfl rfl rfl rfl rfl ?_
              refine o_pure (p_pick_true (u := .bool true) rfl rfl) rfl rfl rfl ?_
              exact o_sub (Sub.cons rfl (Sub.skip rfl (Sub.skip rfl (Sub.skip rfl (Sub.skip rfl (Sub.skip rfl (Sub.skip rfl (Sub.skip rfl (Sub.skip rfl (Sub.skip rfl (Sub.skip rfl (Sub.refl _)))))))))))) hk
            refine o_nil ?_
            refine q_then ?_
            refine c_cond (b := (((i : Int) == 0) || decide ((s.entries[i]).till < next))) rfl (fun hc88 => ?_) (fun hc88 => ?_)
            · simp only [Bool.or_eq_true, beq_iff_eq, decide_eq_true_eq] at hc88
              refine c_region ?_
              refine o_pure (p_fieldAddr (B := B1) (j := 0) (j' := 1) rfl fo24_1 rfl) rfl rfl rfl ?_
              refine o_pure (p_load (i := 7) (v := .slice as_0 s.entries.length cs_0) rfl rfl sh22 rfl) rfl rfl rfl ?_
              refine o_pure (p_move (v := .int .i64 (i : Int)) rfl) rfl rfl rfl ?_
              refine o_pure (p_indexAddr (L := s.entries) (T := tEntry) (i := (i : Int)) rfl rfl (rd_base (i := 8) rfl hs_0) Try.underlying22 sz42 (by omega) (by omega)) rfl rfl rfl ?_
              refine o_pure (p_fieldAddrE rfl fo42_2) rfl rfl rfl ?_
              refine o_pure (p_loadF (i := i) (j := 2) (T := tEntry) (L := s.entries) (v := .int .i64 ((s.entries[i]).till)) rfl (rd_base (i := 8) rfl hs_0) (by first | assumption | omega) sh3 rfl) rfl rfl rfl ?_
              refine o_pure (p_assign (v := .int .i64 ((s.entries[i]).till)) rfl) rfl rfl rfl ?_
              refine o_nil ?_
              refine q_block_normal (q_then ?_)
              refine c_region ?_
              refine o_pure (p_move (v := .int .i64 (i : Int)) rfl) rfl rfl rfl ?_
              refine o_pure (p_addb (p := (i : Int)) (q := 1) rfl rfl (by omega)) rfl rfl rfl ?_
              refine o_pure (p_assign (v := .int .i64 ((i : Int) + 1)) rfl) rfl rfl rfl ?_
              refine o_nil ?_
              refine q_round hK84 ((s.entries[i]).till, i + 1) ?_ ?_ ?_ ?_
              · clear hK84
                first | exact ⟨by omega, (Exp.lt_next hI.2.1 (by omega)).1 (by omega), .inr hcs⟩ | exact ⟨by omega, (Exp.lt_next hI.2.1 (by omega)).2 (by omega), .inr hcs⟩
              · (try dsimp only); omega
              · exact Sub.cons rfl (Sub.cons rfl (Sub.cons rfl (Sub.cons rfl (Sub.cons rfl (Sub.cons rfl (Sub.cons rfl (Sub.cons rfl (Sub.cons rfl (Sub.cons rfl (Sub.cons rfl (Sub.cons rfl (Sub.cons rfl (Sub.cons rfl (Sub.cons rfl (Sub.cons rfl (Sub.cons rfl (Sub.cons rfl (Sub.cons rfl (Sub.cons rfl (Sub.cons rfl (Sub.cons rfl (Sub.cons rfl (Sub.nil _)))))))))))))))))))))))
              · exact fun _ hw => HeapIs.pick hw [0, 1, 2, 3, 4, 5, 6, 7, 8] (by decide) rfl
            · simp only [Bool.or_eq_false_iff, beq_eq_false_iff_ne, ne_eq, decide_eq_false_iff_not, Int.not_lt] at hc88
              refine c_skip ?_
              refine q_block_normal (q_then ?_)
              refine c_region ?_
              refine o_pure (p_move (v := .int .i64 (i : Int)) rfl) rfl rfl rfl ?_
              refine o_pure (p_addb (p := (i : Int)) (q := 1) rfl rfl (by omega)) rfl rfl rfl ?_
              refine o_pure (p_assign (v := .int .i64 ((i : Int) + 1)) rfl) rfl rfl rfl ?_
              refine o_nil ?_
              refine q_round hK84 (next, i + 1) ?_ ?_ ?_ ?_
              · clear hK84
                first | exact ⟨by omega, (Exp.lt_next hI.2.1 (by omega)).1 (by omega), .inr hcs⟩ | exact ⟨by omega, (Exp.lt_next hI.2.1 (by omega)).2 (by omega), .inr hcs⟩
              · (try dsimp only); omega
              · exact Sub.cons rfl (Sub.cons rfl (Sub.cons rfl (Sub.cons rfl (Sub.cons rfl (Sub.cons rfl (Sub.cons rfl (Sub.cons rfl (Sub.cons rfl (Sub.cons rfl (Sub.cons rfl (Sub.cons rfl (Sub.cons rfl (Sub.cons rfl (Sub.cons rfl (Sub.cons rfl (Sub.cons rfl (Sub.cons rfl (Sub.cons rfl (Sub.cons rfl (Sub.cons rfl (Sub.cons rfl (Sub.cons rfl (Sub.nil _)))))))))))))))))))))))
              · exact fun _ hw => HeapIs.pick hw [0, 1, 2, 3, 4, 5, 6, 7, 8] (by decide) rfl
          · simp only [Bool.and_eq_false_iff, decide_eq_false_iff_not, Int.not_lt, beq_eq_false_iff_ne, ne_eq] at hc86
            have hle9 := hc86
            have hnx : 0 < s.entries.length → Exp.check s = 0 → next = Exp.least s.entries := fun h1 h2 => Exp.lt_end hI.2.1 (by omega) h1
            have hn0 : i = 0 → next = 0 := fun h => by rw [hI.2.1, h]; rfl
            have hi0 := hI.1
            have hi1 := hI.2.2
            refine c_exit ?_
            refine q_then_exit (q_then_exit (q_block_exit (q_then ?_)))
            refine c_seq ?_
            refine c_region ?_
            refine o_call0 (v := .bool true) rfl (expireBegun_ok ) hf24 (fun _ _ => trivial) rfl ?_
            refine o_pure (p_move (v := .bool true) rfl) rfl rfl rfl ?_
            refine o_unguard 146 rfl rfl ?_
            refine o_pure (p_load_agg (i := 7) (vs := [.int .i64 s.life, .slice as_0 s.entries.length cs_0]) rfl rfl sh24 rfl rfl) rfl rfl rfl ?_
            refine o_unguard 146 rfl rfl ?_
            refine o_call0 (v := .int .i64 (Exp.check s)) rfl (echeck_ok s as_0 cs_0) hf25 (fun w hw => (rd_base (i := 8) rfl hs_0) w hw) rfl ?_
            refine o_unguard 146 rfl rfl ?_
            refine o_pure (p_move (v := .int .i64 (Exp.check s)) rfl) rfl rfl rfl ?_
            refine o_unguard 146 rfl rfl ?_
            refine o_pure (p_eq (p := (Exp.check s)) (q := (Exp.check s)) rfl rfl) rfl rfl rfl ?_
            refine o_pure (p_pick_true (u := .bool ((Exp.check s) == (Exp.check s))) rfl rfl) rfl rfl rfl ?_
            refine o_pure (p_move (v := .bool ((Exp.check s) == (Exp.check s))) rfl) rfl rfl rfl ?_
            refine o_and (p := 156) 4 (decide ((Exp.put s key n now) = (⟨0, []⟩ : DStore))) ?_ ?_ ?_
            · intro hb89 hk
              simp only [beq_iff_eq] at hb89
              refine o_unguard 152 rfl rfl ?_
              refine o_pure (p_load_agg (i := 5) (vs := [.int .i64 ((Exp.put s key n now).life), .slice a4 ((Exp.put s key n now).entries).length c5]) rfl rfl sh24 rfl rfl) rfl rfl rfl ?_
              refine o_unguard 152 rfl rfl ?_
              refine o_pure (p_load_agg (i := 2) (vs := [.int .i64 0, .slice none 0 0]) rfl rfl sh24 rfl rfl) rfl rfl rfl ?_
              refine o_unguard 152 rfl rfl ?_
              refine o_call0 (v := .bool (decide ((Exp.put s key n now) = (⟨0, []⟩ : DStore)))) rfl (sameLasting_ok (Exp.put s key n now) a4 c5 (⟨0, []⟩ : DStore) none 0) hf26 (fun w hw => ⟨(rd_own (i := 6) rfl) w hw, rd_nil w hw⟩) rfl ?_
              refine o_pure (p_pick_true (u := .bool (decide ((Exp.put s key n now) = (⟨0, []⟩ : DStore)))) rfl rfl) rfl rfl rfl ?_
              exact o_sub (Sub.cons rfl (Sub.skip rfl (Sub.skip rfl (Sub.skip rfl (Sub.skip rfl (Sub.skip rfl (Sub.refl _))))))) hk
            · intro hb89 hk
              refine o_guard_no rfl 152 rfl rfl rfl rfl rfl ?_
              refine o_guard_no rfl 152 rfl rfl rfl rfl rfl ?_
              refine o_guard_no rfl 152 rfl rfl rfl rfl rfl ?_
              refine o_pure (p_pick_false (v := .bool false) rfl rfl) rfl rfl rfl ?_
              exact o_sub (Sub.cons rfl (Sub.skip rfl (Sub.skip rfl (Sub.skip rfl (Sub.skip rfl (Sub.skip rfl (Sub.refl _))))))) hk
            refine o_pure (p_move (v := .bool (((Exp.check s) == (Exp.check s)) && (decide ((Exp.put s key n now) = (⟨0, []⟩ : DStore))))) rfl) rfl rfl rfl ?_
            refine o_and (p := 161) 4 ((Exp.putErr s key n now) == 3) ?_ ?_ ?_
            · intro hb90 hk
              simp only [Bool.and_eq_true, beq_iff_eq, decide_eq_true_eq] at hb90
              refine o_unguard 157 rfl rfl ?_
              refine o_pure (p_move (v := .int .i64 (Exp.putErr s key n now)) rfl) rfl rfl rfl ?_
              refine o_unguard 157 rfl rfl ?_
              refine o_pure (p_move (v := .int .i64 3) rfl) rfl rfl rfl ?_
              refine o_unguard 157 rfl rfl ?_
              refine o_pure (p_eq (p := (Exp.putErr s key n now)) (q := 3) rfl rfl) rfl rfl rfl ?_
              refine o_pure (p_pick_true (u := .bool ((Exp.putErr s key n now) == 3)) rfl rfl) rfl rfl rfl ?_
              exact o_sub (Sub.cons rfl (Sub.skip rfl (Sub.skip rfl (Sub.skip rfl (Sub.skip rfl (Sub.skip rfl (Sub.refl _))))))) hk
            · intro hb90 hk
              refine o_guard_no rfl 157 rfl rfl rfl rfl rfl ?_
              refine o_guard_no rfl 157 rfl rfl rfl rfl rfl ?_
              refine o_guard_no rfl 157 rfl rfl rfl rfl rfl ?_
              refine o_pure (p_pick_false (v := .bool false) rfl rfl) rfl rfl rfl ?_
              exact o_sub (Sub.cons rfl (Sub.skip rfl (Sub.skip rfl (Sub.skip rfl (Sub.skip rfl (Sub.skip rfl (Sub.refl _))))))) hk
            refine o_pure (p_move (v := .bool ((((Exp.check s) == (Exp.check s)) && (decide ((Exp.put s key n now) = (⟨0, []⟩ : DStore)))) && ((Exp.putErr s key n now) == 3))) rfl) rfl rfl rfl ?_
            refine o_and (p := 166) 4 (((Exp.get s key now).1) == ((Exp.getGo s.entries key now).1)) ?_ ?_ ?_
            · intro hb91 hk
              simp only [Bool.and_eq_true, beq_iff_eq, decide_eq_true_eq] at hb91
              refine o_unguard 162 rfl rfl ?_
              refine o_pure (p_move (v := .int .i64 ((Exp.get s key now).1)) rfl) rfl rfl rfl ?_
              refine o_unguard 162 rfl rfl ?_
              refine o_pure (p_move (v := .int .i64 ((Exp.getGo s.entries key now).1)) rfl) rfl rfl rfl ?_
              refine o_unguard 162 rfl rfl ?_
              refine o_pure (p_eq (p := ((Exp.get s key now).1)) (q := ((Exp.getGo s.entries key now).1)) rfl rfl) rfl rfl rfl ?_
              refine o_pure (p_pick_true (u := .bool (((Exp.get s key now).1) == ((Exp.getGo s.entries key now).1))) rfl rfl) rfl rfl rfl ?_
              exact o_sub (Sub.cons rfl (Sub.skip rfl (Sub.skip rfl (Sub.skip rfl (Sub.skip rfl (Sub.skip rfl (Sub.refl _))))))) hk
            · intro hb91 hk
              refine o_guard_no rfl 162 rfl rfl rfl rfl rfl ?_
              refine o_guard_no rfl 162 rfl rfl rfl rfl rfl ?_
              refine o_guard_no rfl 162 rfl rfl rfl rfl rfl ?_
              refine o_pure (p_pick_false (v := .bool false) rfl rfl) rfl rfl rfl ?_
              exact o_sub (Sub.cons rfl (Sub.skip rfl (Sub.skip rfl (Sub.skip rfl (Sub.skip rfl (Sub.skip rfl (Sub.refl _))))))) hk
            refine o_pure (p_move (v := .bool (((((Exp.check s) == (Exp.check s)) && (decide ((Exp.put s key n now) = (⟨0, []⟩ : DStore)))) && ((Exp.putErr s key n now) == 3)) && (((Exp.get s key now).1) == ((Exp.getGo s.entries key now).1)))) rfl) rfl rfl rfl ?_
            refine o_and (p := 171) 4 (((Exp.get s key now).2) == ((Exp.getGo s.entries key now).2)) ?_ ?_ ?_
            · intro hb92 hk
              simp only [Bool.and_eq_true, beq_iff_eq, decide_eq_true_eq] at hb92
              refine o_unguard 167 rfl rfl ?_
              refine o_pure (p_move (v := .bool ((Exp.get s key now).2)) rfl) rfl rfl rfl ?_
              refine o_unguard 167 rfl rfl ?_
              refine o_pure (p_move (v := .bool ((Exp.getGo s.entries key now).2)) rfl) rfl rfl rfl ?_
              refine o_unguard 167 rfl rfl ?_
              refine o_pure (p_eqBool (b := ((Exp.get s key now).2)) (c := ((Exp.getGo s.entries key now).2)) rfl rfl Try.underlying4) rfl rfl rfl ?_
              refine o_pure (p_pick_true (u := .bool (((Exp.get s key now).2) == ((Exp.getGo s.entries key now).2))) rfl rfl) rfl rfl rfl ?_
              exact o_sub (Sub.cons rfl (Sub.skip rfl (Sub.skip rfl (Sub.skip rfl (Sub.skip rfl (Sub.skip rfl (Sub.refl _))))))) hk
            · intro hb92 hk
              refine o_guard_no rfl 167 rfl rfl rfl rfl rfl ?_
              refine o_guard_no rfl 167 rfl rfl rfl rfl rfl ?_
              refine o_guard_no rfl 167 rfl rfl rfl rfl rfl ?_
              refine o_pure (p_pick_false (v := .bool false) rfl rfl) rfl rfl rfl ?_
              exact o_sub (Sub.cons rfl (Sub.skip rfl (Sub.skip rfl (Sub.skip rfl (Sub.skip rfl (Sub.skip rfl (Sub.refl _))))))) hk
            refine o_pure (p_move (v := .bool ((((((Exp.check s) == (Exp.check s)) && (decide ((Exp.put s key n now) = (⟨0, []⟩ : DStore)))) && ((Exp.putErr s key n now) == 3)) && (((Exp.get s key now).1) == ((Exp.getGo s.entries key now).1))) && (((Exp.get s key now).2) == ((Exp.getGo s.entries key now).2)))) rfl) rfl rfl rfl ?_
            refine o_and (p := 176) 4 ((Exp.getErr s key now) == (Exp.nowErr s now)) ?_ ?_ ?_
            · intro hb93 hk
              simp only [Bool.and_eq_true, beq_iff_eq, decide_eq_true_eq] at hb93
              refine o_unguard 172 rfl rfl ?_
              refine o_pure (p_move (v := .int .i64 (Exp.getErr s key now)) rfl) rfl rfl rfl ?_
              refine o_unguard 172 rfl rfl ?_
              refine o_pure (p_move (v := .int .i64 (Exp.nowErr s now)) rfl) rfl rfl rfl ?_
              refine o_unguard 172 rfl rfl ?_
              refine o_pure (p_eq (p := (Exp.getErr s key now)) (q := (Exp.nowErr s now)) rfl rfl) rfl rfl rfl ?_
              refine o_pure (p_pick_true (u := .bool ((Exp.getErr s key now) == (Exp.nowErr s now))) rfl rfl) rfl rfl rfl ?_
              exact o_sub (Sub.cons rfl (Sub.skip rfl (Sub.skip rfl (Sub.skip rfl (Sub.skip rfl (Sub.skip rfl (Sub.refl _))))))) hk
            · intro hb93 hk
              refine o_guard_no rfl 172 rfl rfl rfl rfl rfl ?_
              refine o_guard_no rfl 172 rfl rfl rfl rfl rfl ?_
              refine o_guard_no rfl 172 rfl rfl rfl rfl rfl ?_
              refine o_pure (p_pick_false (v := .bool false) rfl rfl) rfl rfl rfl ?_
              exact o_sub (Sub.cons rfl (Sub.skip rfl (Sub.skip rfl (Sub.skip rfl (Sub.skip rfl (Sub.skip rfl (Sub.refl _))))))) hk
            refine o_pure (p_move (v := .bool (((((((Exp.check s) == (Exp.check s)) && (decide ((Exp.put s key n now) = (⟨0, []⟩ : DStore)))) && ((Exp.putErr s key n now) == 3)) && (((Exp.get s key now).1) == ((Exp.getGo s.entries key now).1))) && (((Exp.get s key now).2) == ((Exp.getGo s.entries key now).2))) && ((Exp.getErr s key now) == (Exp.nowErr s now)))) rfl) rfl rfl rfl ?_
            refine o_and (p := 181) 4 (decide (((Exp.sweep s now).1) = (⟨s.life, Exp.live now s.entries⟩ : DStore))) ?_ ?_ ?_
            · intro hb94 hk
              simp only [Bool.and_eq_true, beq_iff_eq, decide_eq_true_eq] at hb94
              refine o_unguard 177 rfl rfl ?_
              refine o_pure (p_load_agg (i := 3) (vs := [.int .i64 (((Exp.sweep s now).1).life), .slice a10 (((Exp.sweep s now).1).entries).length c11]) rfl rfl sh24 rfl rfl) rfl rfl rfl ?_
              refine o_unguard 177 rfl rfl ?_
              refine o_pure (p_load_agg (i := 1) (vs := [.int .i64 s.life, .slice a72 (Exp.live now s.entries).length c73]) rfl rfl sh24 rfl rfl) rfl rfl rfl ?_
              refine o_unguard 177 rfl rfl ?_
              refine o_call0 (v := .bool (decide (((Exp.sweep s now).1) = (⟨s.life, Exp.live now s.entries⟩ : DStore)))) rfl (sameLasting_ok ((Exp.sweep s now).1) a10 c11 (⟨s.life, Exp.live now s.entries⟩ : DStore) a72 c73) hf26 (fun w hw => ⟨(rd_ent (i := 4) rfl (fun w h => h.1)) w hw, (rd_ent (i := 0) rfl (fun w h => h.1)) w hw⟩) rfl ?_
              refine o_pure (p_pick_true (u := .bool (decide (((Exp.sweep s now).1) = (⟨s.life, Exp.live now s.entries⟩ : DStore)))) rfl rfl) rfl rfl rfl ?_
              exact o_sub (Sub.cons rfl (Sub.skip rfl (Sub.skip rfl (Sub.skip rfl (Sub.skip rfl (Sub.skip rfl (Sub.refl _))))))) hk
            · intro hb94 hk
              refine o_guard_no rfl 177 rfl rfl rfl rfl rfl ?_
              refine o_guard_no rfl 177 rfl rfl rfl rfl rfl ?_
              refine o_guard_no rfl 177 rfl rfl rfl rfl rfl ?_
              refine o_pure (p_pick_false (v := .bool false) rfl rfl) rfl rfl rfl ?_
              exact o_sub (Sub.cons rfl (Sub.skip rfl (Sub.skip rfl (Sub.skip rfl (Sub.skip rfl (Sub.skip rfl (Sub.refl _))))))) hk
            refine o_pure (p_move (v := .bool ((((((((Exp.check s) == (Exp.check s)) && (decide ((Exp.put s key n now) = (⟨0, []⟩ : DStore)))) && ((Exp.putErr s key n now) == 3)) && (((Exp.get s key now).1) == ((Exp.getGo s.entries key now).1))) && (((Exp.get s key now).2) == ((Exp.getGo s.entries key now).2))) && ((Exp.getErr s key now) == (Exp.nowErr s now))) && (decide (((Exp.sweep s now).1) = (⟨s.life, Exp.live now s.entries⟩ : DStore))))) rfl) rfl rfl rfl ?_
            refine o_and (p := 186) 4 (Ref.sameInts ((Exp.sweep s now).2) (Exp.over now s.entries)) ?_ ?_ ?_
            · intro hb95 hk
              simp only [Bool.and_eq_true, beq_iff_eq, decide_eq_true_eq] at hb95
              refine o_unguard 182 rfl rfl ?_
              refine o_pure (p_move (v := .slice a12 ((Exp.sweep s now).2).length c13) rfl) rfl rfl rfl ?_
              refine o_unguard 182 rfl rfl ?_
              refine o_pure (p_move (v := .slice a74 (Exp.over now s.entries).length c75) rfl) rfl rfl rfl ?_
              refine o_unguard 182 rfl rfl ?_
              refine o_call0 (v := .bool (Ref.sameInts ((Exp.sweep s now).2) (Exp.over now s.entries))) rfl (sameInts_ok ((Exp.sweep s now).2) a12 c13 (Exp.over now s.entries) a74 c75) hf27 (fun w hw => ⟨(rd_ent (i := 4) rfl (fun w h => h.2)) w hw, (rd_ent (i := 0) rfl (fun w h => h.2)) w hw⟩) rfl ?_
              refine o_pure (p_pick_true (u := .bool (Ref.sameInts ((Exp.sweep s now).2) (Exp.over now s.entries))) rfl rfl) rfl rfl rfl ?_
              exact o_sub (Sub.cons rfl (Sub.skip rfl (Sub.skip rfl (Sub.skip rfl (Sub.skip rfl (Sub.skip rfl (Sub.refl _))))))) hk
            · intro hb95 hk
              refine o_guard_no rfl 182 rfl rfl rfl rfl rfl ?_
              refine o_guard_no rfl 182 rfl rfl rfl rfl rfl ?_
              refine o_guard_no rfl 182 rfl rfl rfl rfl rfl ?_
              refine o_pure (p_pick_false (v := .bool false) rfl rfl) rfl rfl rfl ?_
              exact o_sub (Sub.cons rfl (Sub.skip rfl (Sub.skip rfl (Sub.skip rfl (Sub.skip rfl (Sub.skip rfl (Sub.refl _))))))) hk
            refine o_pure (p_move (v := .bool (((((((((Exp.check s) == (Exp.check s)) && (decide ((Exp.put s key n now) = (⟨0, []⟩ : DStore)))) && ((Exp.putErr s key n now) == 3)) && (((Exp.get s key now).1) == ((Exp.getGo s.entries key now).1))) && (((Exp.get s key now).2) == ((Exp.getGo s.entries key now).2))) && ((Exp.getErr s key now) == (Exp.nowErr s now))) && (decide (((Exp.sweep s now).1) = (⟨s.life, Exp.live now s.entries⟩ : DStore)))) && (Ref.sameInts ((Exp.sweep s now).2) (Exp.over now s.entries)))) rfl) rfl rfl rfl ?_
            refine o_and (p := 191) 4 ((Exp.nowErr s now) == (Exp.nowErr s now)) ?_ ?_ ?_
            · intro hb96 hk
              simp only [Bool.and_eq_true, beq_iff_eq, decide_eq_true_eq] at hb96
              refine o_unguard 187 rfl rfl ?_
              refine o_pure (p_move (v := .int .i64 (Exp.nowErr s now)) rfl) rfl rfl rfl ?_
              refine o_unguard 187 rfl rfl ?_
              refine o_pure (p_move (v := .int .i64 (Exp.nowErr s now)) rfl) rfl rfl rfl ?_
              refine o_unguard 187 rfl rfl ?_
              refine o_pure (p_eq (p := (Exp.nowErr s now)) (q := (Exp.nowErr s now)) rfl rfl) rfl rfl rfl ?_
              refine o_pure (p_pick_true (u := .bool ((Exp.nowErr s now) == (Exp.nowErr s now))) rfl rfl) rfl rfl rfl ?_
              exact o_sub (Sub.cons rfl (Sub.skip rfl (Sub.skip rfl (Sub.skip rfl (Sub.skip rfl (Sub.skip rfl (Sub.refl _))))))) hk
            · intro hb96 hk
              refine o_guard_no rfl 187 rfl rfl rfl rfl rfl ?_
              refine o_guard_no rfl 187 rfl rfl rfl rfl rfl ?_
              refine o_guard_no rfl 187 rfl rfl rfl rfl rfl ?_
              refine o_pure (p_pick_false (v := .bool false) rfl rfl) rfl rfl rfl ?_
              exact o_sub (Sub.cons rfl (Sub.skip rfl (Sub.skip rfl (Sub.skip rfl (Sub.skip rfl (Sub.skip rfl (Sub.refl _))))))) hk
            refine o_pure (p_move (v := .bool ((((((((((Exp.check s) == (Exp.check s)) && (decide ((Exp.put s key n now) = (⟨0, []⟩ : DStore)))) && ((Exp.putErr s key n now) == 3)) && (((Exp.get s key now).1) == ((Exp.getGo s.entries key now).1))) && (((Exp.get s key now).2) == ((Exp.getGo s.entries key now).2))) && ((Exp.getErr s key now) == (Exp.nowErr s now))) && (decide (((Exp.sweep s now).1) = (⟨s.life, Exp.live now s.entries⟩ : DStore)))) && (Ref.sameInts ((Exp.sweep s now).2) (Exp.over now s.entries))) && ((Exp.nowErr s now) == (Exp.nowErr s now)))) rfl) rfl rfl rfl ?_
            refine o_and (p := 196) 4 ((Exp.next s) == next) ?_ ?_ ?_
            · intro hb97 hk
              simp only [Bool.and_eq_true, beq_iff_eq, decide_eq_true_eq] at hb97
              refine o_unguard 192 rfl rfl ?_
              refine o_pure (p_move (v := .int .i64 (Exp.next s)) rfl) rfl rfl rfl ?_
              refine o_unguard 192 rfl rfl ?_
              refine o_pure (p_move (v := .int .i64 next) rfl) rfl rfl rfl ?_
              refine o_unguard 192 rfl rfl ?_
              refine o_pure (p_eq (p := (Exp.next s)) (q := next) rfl rfl) rfl rfl rfl ?_
              refine o_pure (p_pick_true (u := .bool ((Exp.next s) == next)) rfl rfl) rfl rfl rfl ?_
              exact o_sub (Sub.cons rfl (Sub.skip rfl (Sub.skip rfl (Sub.skip rfl (Sub.skip rfl (Sub.skip rfl (Sub.refl _))))))) hk
            · intro hb97 hk
              refine o_guard_no rfl 192 rfl rfl rfl rfl rfl ?_
              refine o_guard_no rfl 192 rfl rfl rfl rfl rfl ?_
              refine o_guard_no rfl 192 rfl rfl rfl rfl rfl ?_
              refine o_pure (p_pick_false (v := .bool false) rfl rfl) rfl rfl rfl ?_
              exact o_sub (Sub.cons rfl (Sub.skip rfl (Sub.skip rfl (Sub.skip rfl (Sub.skip rfl (Sub.skip rfl (Sub.refl _))))))) hk
            refine o_pure (p_move (v := .bool (((((((((((Exp.check s) == (Exp.check s)) && (decide ((Exp.put s key n now) = (⟨0, []⟩ : DStore)))) && ((Exp.putErr s key n now) == 3)) && (((Exp.get s key now).1) == ((Exp.getGo s.entries key now).1))) && (((Exp.get s key now).2) == ((Exp.getGo s.entries key now).2))) && ((Exp.getErr s key now) == (Exp.nowErr s now))) && (decide (((Exp.sweep s now).1) = (⟨s.life, Exp.live now s.entries⟩ : DStore)))) && (Ref.sameInts ((Exp.sweep s now).2) (Exp.over now s.entries))) && ((Exp.nowErr s now) == (Exp.nowErr s now))) && ((Exp.next s) == next))) rfl) rfl rfl rfl ?_
            refine o_and (p := 201) 4 ((Exp.nextErr s) == t) ?_ ?_ ?_
            · intro hb98 hk
              simp only [Bool.and_eq_true, beq_iff_eq, decide_eq_true_eq] at hb98
              refine o_unguard 197 rfl rfl ?_
              refine o_pure (p_move (v := .int .i64 (Exp.nextErr s)) rfl) rfl rfl rfl ?_
              refine o_unguard 197 rfl rfl ?_
              refine o_pure (p_move (v := .int .i64 t) rfl) rfl rfl rfl ?_
              refine o_unguard 197 rfl rfl ?_
              refine o_pure (p_eq (p := (Exp.nextErr s)) (q := t) rfl rfl) rfl rfl rfl ?_
              refine o_pure (p_pick_true (u := .bool ((Exp.nextErr s) == t)) rfl rfl) rfl rfl rfl ?_
              exact o_sub (Sub.cons rfl (Sub.skip rfl (Sub.skip rfl (Sub.skip rfl (Sub.skip rfl (Sub.skip rfl (Sub.refl _))))))) hk
            · intro hb98 hk
              refine o_guard_no rfl 197 rfl rfl rfl rfl rfl ?_
              refine o_guard_no rfl 197 rfl rfl rfl rfl rfl ?_
              refine o_guard_no rfl 197 rfl rfl rfl rfl rfl ?_
              refine o_pure (p_pick_false (v := .bool false) rfl rfl) rfl rfl rfl ?_
              exact o_sub (Sub.cons rfl (Sub.skip rfl (Sub.skip rfl (Sub.skip rfl (Sub.skip rfl (Sub.skip rfl (Sub.refl _))))))) hk
            refine o_pure (p_assign (v := .bool ((((((((((((Exp.check s) == (Exp.check s)) && (decide ((Exp.put s key n now) = (⟨0, []⟩ : DStore)))) && ((Exp.putErr s key n now) == 3)) && (((Exp.get s key now).1) == ((Exp.getGo s.entries key now).1))) && (((Exp.get s key now).2) == ((Exp.getGo s.entries key now).2))) && ((Exp.getErr s key now) == (Exp.nowErr s now))) && (decide (((Exp.sweep s now).1) = (⟨s.life, Exp.live now s.entries⟩ : DStore)))) && (Ref.sameInts ((Exp.sweep s now).2) (Exp.over now s.entries))) && ((Exp.nowErr s now) == (Exp.nowErr s now))) && ((Exp.next s) == next)) && ((Exp.nextErr s) == t))) rfl) rfl rfl rfl ?_
            refine o_nil ?_
            refine q_then ?_
            refine c_ret ?_
            have hr0 : (((((((((((((Exp.check s) == (Exp.check s)) && (decide ((Exp.put s key n now) = (⟨0, []⟩ : DStore)))) && ((Exp.putErr s key n now) == 3)) && (((Exp.get s key now).1) == ((Exp.getGo s.entries key now).1))) && (((Exp.get s key now).2) == ((Exp.getGo s.entries key now).2))) && ((Exp.getErr s key now) == (Exp.nowErr s now))) && (decide (((Exp.sweep s now).1) = (⟨s.life, Exp.live now s.entries⟩ : DStore)))) && (Ref.sameInts ((Exp.sweep s now).2) (Exp.over now s.entries))) && ((Exp.nowErr s now) == (Exp.nowErr s now))) && ((Exp.next s) == next)) && ((Exp.nextErr s) == t)) : Bool) = true := by
              rcases hJ with ⟨j0, j1, j2⟩ | ⟨j0, j1⟩ <;> rcases Exp.spec_a s key n now with ⟨a0, a1, a2, a3, a4⟩ | ⟨a0, a5, a1, a2, a3, a4⟩ | ⟨a0, a5, a6, a1, a2, a3, a4⟩ | ⟨a0, a5, a6, a1, a2, a3, a4⟩ <;> rcases Exp.spec_b s now with ⟨b0, b1⟩ | ⟨b0, b1⟩ <;> rcases Exp.spec_c s with ⟨c0, c1, c2⟩ | ⟨c0, c3, c1, c2⟩ | ⟨c0, c3, c1, c2⟩ <;> first | (exfalso; omega) | (rw [a1, a2, a3, a4, b1, c1, c2, hnx (by omega) (by omega), j0]; simp [Exp.zero, Ref.sameInts, a0, c0]; done) | (rw [a1, a2, a3, a4, b1, c1, c2, hn0 (by omega), j0]; simp [Exp.zero, Ref.sameInts, a0, c0]; done)
            refine q_end0 (v := .bool ((((((((((((Exp.check s) == (Exp.check s)) && (decide ((Exp.put s key n now) = (⟨0, []⟩ : DStore)))) && ((Exp.putErr s key n now) == 3)) && (((Exp.get s key now).1) == ((Exp.getGo s.entries key now).1))) && (((Exp.get s key now).2) == ((Exp.getGo s.entries key now).2))) && ((Exp.getErr s key now) == (Exp.nowErr s now))) && (decide (((Exp.sweep s now).1) = (⟨s.life, Exp.live now s.entries⟩ : DStore)))) && (Ref.sameInts ((Exp.sweep s now).2) (Exp.over now s.entries))) && ((Exp.nowErr s now) == (Exp.nowErr s now))) && ((Exp.next s) == next)) && ((Exp.nextErr s) == t))) (rt1 rfl (r_tmp rfl)) (i := 8) rfl ?_
            exact (by have hcc := congrArg (fun (y0 : Bool) => (.bool y0 : Value)) hr0; exact hcc)
        · simp only [Bool.or_eq_false_iff, decide_eq_false_iff_not, Int.not_lt] at hc80
          refine c_region ?_
          refine o_pure (p_load_agg (i := 7) (vs := [.int .i64 s.life, .slice as_0 s.entries.length cs_0]) rfl rfl sh24 rfl rfl) rfl rfl rfl ?_
          refine o_pure (p_move (v := .int .i64 key) rfl) rfl rfl rfl ?_
          refine o_pure (p_move (v := .int .i64 n) rfl) rfl rfl rfl ?_
          refine o_pure (p_move (v := .int .i64 now) rfl) rfl rfl rfl ?_
          refine o_callM rfl (lastPut_ok s as_0 cs_0 key n now (by first | assumption | exact ⟨hok, hnw⟩)) hf23 (fun w hw => (rd_base (i := 8) rfl hs_0) w hw) rfl (fun _ _ _ _ ha hA => SlO.agree ha hA) ?_
          rintro ⟨a101, c102⟩ S99
          refine o_know (fun w hw => own_len (i := 0) (T := tEntry) hw rfl) (fun hlr103 => ?_)
          refine o_pure (p_move (v := .tuple #[.agg #[.int .i64 ((Exp.refPut s key n now).life), .slice a101 ((Exp.refPut s key n now).entries).length c102], .int .i64 (Exp.refErr s key n now)]) rfl) rfl rfl rfl ?_
          refine o_pure (p_extract (vs := [.agg #[.int .i64 ((Exp.refPut s key n now).life), .slice a101 ((Exp.refPut s key n now).entries).length c102], .int .i64 (Exp.refErr s key n now)]) (v := .agg #[.int .i64 ((Exp.refPut s key n now).life), .slice a101 ((Exp.refPut s key n now).entries).length c102]) rfl rfl) rfl rfl rfl ?_
          refine o_pure (p_extract (vs := [.agg #[.int .i64 ((Exp.refPut s key n now).life), .slice a101 ((Exp.refPut s key n now).entries).length c102], .int .i64 (Exp.refErr s key n now)]) (v := .int .i64 (Exp.refErr s key n now)) rfl rfl) rfl rfl rfl ?_
          refine o_storeN (i := 3) (vs := [.int .i64 ((Exp.refPut s key n now).life), .slice a101 ((Exp.refPut s key n now).entries).length c102]) (cs' := [.int .i64 ((Exp.refPut s key n now).life), .slice a101 ((Exp.refPut s key n now).entries).length c102]) rfl rfl rfl sz24 rfl rfl rfl rfl ?_
          refine o_pure (p_assign (v := .int .i64 (Exp.refErr s key n now)) rfl) rfl rfl rfl ?_
          refine o_nil ?_
          refine q_then ?_
          refine c_seq ?_
          refine c_seq ?_
          refine c_region ?_
          refine o_pure (p_move (v := .int .i64 (Exp.check s)) rfl) rfl rfl rfl ?_
          refine o_pure (p_eq (p := (Exp.check s)) (q := 0) rfl rfl) rfl rfl rfl ?_
          refine o_pure (p_move (v := .bool ((Exp.check s) == 0)) rfl) rfl rfl rfl ?_
          refine o_and (p := 115) 5 ((s.entries.length : Int) == 0) ?_ ?_ ?_
          · intro hb104 hk
            simp only [beq_iff_eq] at hb104
            refine o_unguard 110 rfl rfl ?_
            refine o_pure (p_fieldAddr (B := B1) (j := 0) (j' := 1) rfl fo24_1 rfl) rfl rfl rfl ?_
            refine o_unguard 110 rfl rfl ?_
            refine o_pure (p_load (i := 8) (v := .slice as_0 s.entries.length cs_0) rfl rfl sh22 rfl) rfl rfl rfl ?_
            refine o_unguard 110 rfl rfl ?_
            refine o_pure (p_len_slice (len := s.entries.length) rfl rfl Try.underlying22) rfl rfl rfl ?_
            refine o_unguard 110 rfl rfl ?_
            refine o_pure (p_eq (p := (s.entries.length : Int)) (q := 0) rfl rfl) rfl rfl rfl ?_
            refine o_pure (p_pick_true (u := .bool ((s.entries.length : Int) == 0)) rfl rfl) rfl rfl rfl ?_
            exact o_sub (Sub.cons rfl (Sub.skip rfl (Sub.skip rfl (Sub.skip rfl (Sub.skip rfl (Sub.skip rfl (Sub.skip rfl (Sub.refl _)))))))) hk
          · intro hb104 hk
            refine o_guard_no rfl 110 rfl rfl rfl rfl rfl ?_
            refine o_guard_no rfl 110 rfl rfl rfl rfl rfl ?_
            refine o_guard_no rfl 110 rfl rfl rfl rfl rfl ?_
            refine o_guard_no rfl 110 rfl rfl rfl rfl rfl ?_
            refine o_pure (p_pick_false (v := .bool false) rfl rfl) rfl rfl rfl ?_
            exact o_sub (Sub.cons rfl (Sub.skip rfl (Sub.skip rfl (Sub.skip rfl (Sub.skip rfl (Sub.skip rfl (Sub.skip rfl (Sub.refl _)))))))) hk
          refine o_nil ?_
          refine q_then ?_
          refine c_join (G := Int)
            (fun t => [(4, .pointer (some ⟨B1, 0, none⟩)), (9, .pointer (some ⟨B7, 0, none⟩)), (10, .int .i64 (Exp.putErr s key n now)), (11, .int .i64 ((Exp.get s key now).1)), (12, .bool ((Exp.get s key now).2)), (13, .int .i64 (Exp.getErr s key now)), (14, .pointer (some ⟨B16, 0, none⟩)), (15, .slice a12 ((Exp.sweep s now).2).length c13), (16, .int .i64 (Exp.nowErr s now)), (17, .int .i64 (Exp.next s)), (18, .int .i64 (Exp.nextErr s)), (19, .int .i64 (Exp.check s)), (20, .int .i64 (Exp.nowErr s now)), (21, .int .i64 (Exp.nowErr s now)), (22, .int .i64 (Exp.refErr s key n now)), (23, .int .i64 t), (24, .pointer (some ⟨B67, 0, none⟩)), (25, .pointer (some ⟨B68, 0, none⟩)), (26, .slice a74 (Exp.over now s.entries).length c75), (27, .int .i64 ((Exp.getGo s.entries key now).1)), (28, .bool ((Exp.getGo s.entries key now).2)), (29, .int .i64 0)])
            (fun t => [own tEntry S99 a101 c102 ((Exp.refPut s key n now).entries), ⟨S70, fun w => SlR tEntry S70 w a72 c73 (Exp.live now s.entries) ∧ SlR tInt S70 w a74 c75 (Exp.over now s.entries)⟩, box B68 [.int .i64 s.life, .slice a72 (Exp.live now s.entries).length c73] 24, box B67 [.int .i64 ((Exp.refPut s key n now).life), .slice a101 ((Exp.refPut s key n now).entries).length c102] 24, box B16 [.int .i64 (((Exp.sweep s now).1).life), .slice a10 (((Exp.sweep s now).1).entries).length c11] 24, ⟨S8, fun w => SlR tEntry S8 w a10 c11 (((Exp.sweep s now).1).entries) ∧ SlR tInt S8 w a12 c13 ((Exp.sweep s now).2)⟩, box B7 [.int .i64 ((Exp.put s key n now).life), .slice a4 ((Exp.put s key n now).entries).length c5] 24, own tEntry S2 a4 c5 ((Exp.put s key n now).entries), box B1 [.int .i64 s.life, .slice as_0 s.entries.length cs_0] 24, base w0])
            (fun t => (t = 5 ∧ Exp.check s = 0 ∧ s.entries.length = 0) ∨ (t = Exp.check s ∧ (Exp.check s ≠ 0 ∨ 0 < s.entries.length)))
            (fun K hK105 => ?_) ?_
          · refine c_cond (b := (((Exp.check s) == 0) && ((s.entries.length : Int) == 0))) rfl (fun hc106 => ?_) (fun hc106 => ?_)
            · simp only [Bool.and_eq_true, beq_iff_eq] at hc106
              have hcl := hc106
              refine c_region ?_
              refine o_pure (p_assign (v := .int .i64 5) rfl) rfl rfl rfl ?_
              refine o_nil ?_
              refine q_join hK105 5 ?_ (Sub.cons rfl (Sub.cons rfl (Sub.cons rfl (Sub.cons rfl (Sub.cons rfl (Sub.cons rfl (Sub.cons rfl (Sub.cons rfl (Sub.cons rfl (Sub.cons rfl (Sub.cons rfl (Sub.cons rfl (Sub.cons rfl (Sub.cons rfl (Sub.cons rfl (Sub.cons rfl (Sub.cons rfl (Sub.cons rfl (Sub.cons rfl (Sub.cons rfl (Sub.cons rfl (Sub.cons rfl (Sub.nil _))))))))))))))))))))))) (fun _ hw => HeapIs.pick hw [0, 1, 2, 3, 4, 5, 6, 7, 8, 9] (by decide) rfl)
              clear hK105
              first | exact .inl ⟨rfl, hcl.1, by omega⟩ | exact .inr ⟨rfl, by omega⟩
            · simp only [Bool.and_eq_false_iff, beq_eq_false_iff_ne, ne_eq] at hc106
              have hcl := hc106
              refine c_skip ?_
              refine q_join hK105 (Exp.check s) ?_ (Sub.cons rfl (Sub.cons rfl (Sub.cons rfl (Sub.cons rfl (Sub.cons rfl (Sub.cons rfl (Sub.cons rfl (Sub.cons rfl (Sub.cons rfl (Sub.cons rfl (Sub.cons rfl (Sub.cons rfl (Sub.cons rfl (Sub.cons rfl (Sub.cons rfl (Sub.cons rfl (Sub.cons rfl (Sub.cons rfl (Sub.cons rfl (Sub.cons rfl (Sub.cons rfl (Sub.cons rfl (Sub.nil _))))))))))))))))))))))) (fun _ hw => HeapIs.pick hw [0, 1, 2, 3, 4, 5, 6, 7, 8, 9] (by decide) rfl)
              clear hK105
              first | exact .inl ⟨rfl, hcl.1, by omega⟩ | exact .inr ⟨rfl, by omega⟩
          rintro t hJ
          show SQ _ 202 w0 _ _ [(4, .pointer (some ⟨B1, 0, none⟩)), (9, .pointer (some ⟨B7, 0, none⟩)), (10, .int .i64 (Exp.putErr s key n now)), (11, .int .i64 ((Exp.get s key now).1)), (12, .bool ((Exp.get s key now).2)), (13, .int .i64 (Exp.getErr s key now)), (14, .pointer (some ⟨B16, 0, none⟩)), (15, .slice a12 ((Exp.sweep s now).2).length c13), (16, .int .i64 (Exp.nowErr s now)), (17, .int .i64 (Exp.next s)), (18, .int .i64 (Exp.nextErr s)), (19, .int .i64 (Exp.check s)), (20, .int .i64 (Exp.nowErr s now)), (21, .int .i64 (Exp.nowErr s now)), (22, .int .i64 (Exp.refErr s key n now)), (23, .int .i64 t), (24, .pointer (some ⟨B67, 0, none⟩)), (25, .pointer (some ⟨B68, 0, none⟩)), (26, .slice a74 (Exp.over now s.entries).length c75), (27, .int .i64 ((Exp.getGo s.entries key now).1)), (28, .bool ((Exp.getGo s.entries key now).2)), (29, .int .i64 0)] [own tEntry S99 a101 c102 ((Exp.refPut s key n now).entries), ⟨S70, fun w => SlR tEntry S70 w a72 c73 (Exp.live now s.entries) ∧ SlR tInt S70 w a74 c75 (Exp.over now s.entries)⟩, box B68 [.int .i64 s.life, .slice a72 (Exp.live now s.entries).length c73] 24, box B67 [.int .i64 ((Exp.refPut s key n now).life), .slice a101 ((Exp.refPut s key n now).entries).length c102] 24, box B16 [.int .i64 (((Exp.sweep s now).1).life), .slice a10 (((Exp.sweep s now).1).entries).length c11] 24, ⟨S8, fun w => SlR tEntry S8 w a10 c11 (((Exp.sweep s now).1).entries) ∧ SlR tInt S8 w a12 c13 ((Exp.sweep s now).2)⟩, box B7 [.int .i64 ((Exp.put s key n now).life), .slice a4 ((Exp.put s key n now).entries).length c5] 24, own tEntry S2 a4 c5 ((Exp.put s key n now).entries), box B1 [.int .i64 s.life, .slice as_0 s.entries.length cs_0] 24, base w0]
          refine q_then ?_
          refine c_seq ?_
          refine c_seq ?_
          refine c_region ?_
          refine o_pure (p_assign (v := .int .i64 0) rfl) rfl rfl rfl ?_
          refine o_nil ?_
          refine q_then ?_
          refine c_block ?_
          refine c_loop (St := Int × Nat)
            (fun ⟨next, i⟩ => [(4, .pointer (some ⟨B1, 0, none⟩)), (9, .pointer (some ⟨B7, 0, none⟩)), (10, .int .i64 (Exp.putErr s key n now)), (11, .int .i64 ((Exp.get s key now).1)), (12, .bool ((Exp.get s key now).2)), (13, .int .i64 (Exp.getErr s key now)), (14, .pointer (some ⟨B16, 0, none⟩)), (15, .slice a12 ((Exp.sweep s now).2).length c13), (16, .int .i64 (Exp.nowErr s now)), (17, .int .i64 (Exp.next s)), (18, .int .i64 (Exp.nextErr s)), (19, .int .i64 (Exp.check s)), (20, .int .i64 (Exp.nowErr s now)), (21, .int .i64 (Exp.nowErr s now)), (22, .int .i64 (Exp.refErr s key n now)), (23, .int .i64 t), (24, .pointer (some ⟨B67, 0, none⟩)), (25, .pointer (some ⟨B68, 0, none⟩)), (26, .slice a74 (Exp.over now s.entries).length c75), (27, .int .i64 ((Exp.getGo s.entries key now).1)), (28, .bool ((Exp.getGo s.entries key now).2)), (29, .int .i64 next), (30, .int .i64 (i : Int))])
            (fun ⟨next, i⟩ => [own tEntry S99 a101 c102 ((Exp.refPut s key n now).entries), ⟨S70, fun w => SlR tEntry S70 w a72 c73 (Exp.live now s.entries) ∧ SlR tInt S70 w a74 c75 (Exp.over now s.entries)⟩, box B68 [.int .i64 s.life, .slice a72 (Exp.live now s.entries).length c73] 24, box B67 [.int .i64 ((Exp.refPut s key n now).life), .slice a101 ((Exp.refPut s key n now).entries).length c102] 24, box B16 [.int .i64 (((Exp.sweep s now).1).life), .slice a10 (((Exp.sweep s now).1).entries).length c11] 24, ⟨S8, fun w => SlR tEntry S8 w a10 c11 (((Exp.sweep s now).1).entries) ∧ SlR tInt S8 w a12 c13 ((Exp.sweep s now).2)⟩, box B7 [.int .i64 ((Exp.put s key n now).life), .slice a4 ((Exp.put s key n now).entries).length c5] 24, own tEntry S2 a4 c5 ((Exp.put s key n now).entries), box B1 [.int .i64 s.life, .slice as_0 s.entries.length cs_0] 24, base w0])
            (fun ⟨next, i⟩ => i ≤ s.entries.length ∧ next = Exp.leastTo s.entries i ∧ (i = 0 ∨ Exp.check s = 0))
            (fun ⟨next, i⟩ => s.entries.length - i)
            (0, 0) ?_ (Sub.cons rfl (Sub.cons rfl (Sub.cons rfl (Sub.cons rfl (Sub.cons rfl (Sub.cons rfl (Sub.cons rfl (Sub.cons rfl (Sub.cons rfl (Sub.cons rfl (Sub.cons rfl (Sub.cons rfl (Sub.cons rfl (Sub.cons rfl (Sub.cons rfl (Sub.cons rfl (Sub.cons rfl (Sub.cons rfl (Sub.cons rfl (Sub.cons rfl (Sub.cons rfl (Sub.cons rfl (Sub.cons rfl (Sub.nil _)))))))))))))))))))))))) (fun _ hw => hw) ?_
          · exact ⟨Nat.zero_le _, rfl, .inl rfl⟩
          rintro ⟨next, i⟩ hI K hK107
          show SC _ _ Try.prog 202 w0 _ _ [(4, .pointer (some ⟨B1, 0, none⟩)), (9, .pointer (some ⟨B7, 0, none⟩)), (10, .int .i64 (Exp.putErr s key n now)), (11, .int .i64 ((Exp.get s key now).1)), (12, .bool ((Exp.get s key now).2)), (13, .int .i64 (Exp.getErr s key now)), (14, .pointer (some ⟨B16, 0, none⟩)), (15, .slice a12 ((Exp.sweep s now).2).length c13), (16, .int .i64 (Exp.nowErr s now)), (17, .int .i64 (Exp.next s)), (18, .int .i64 (Exp.nextErr s)), (19, .int .i64 (Exp.check s)), (20, .int .i64 (Exp.nowErr s now)), (21, .int .i64 (Exp.nowErr s now)), (22, .int .i64 (Exp.refErr s key n now)), (23, .int .i64 t), (24, .pointer (some ⟨B67, 0, none⟩)), (25, .pointer (some ⟨B68, 0, none⟩)), (26, .slice a74 (Exp.over now s.entries).length c75), (27, .int .i64 ((Exp.getGo s.entries key now).1)), (28, .bool ((Exp.getGo s.entries key now).2)), (29, .int .i64 next), (30, .int .i64 (i : Int))] [own tEntry S99 a101 c102 ((Exp.refPut s key n now).entries), ⟨S70, fun w => SlR tEntry S70 w a72 c73 (Exp.live now s.entries) ∧ SlR tInt S70 w a74 c75 (Exp.over now s.entries)⟩, box B68 [.int .i64 s.life, .slice a72 (Exp.live now s.entries).length c73] 24, box B67 [.int .i64 ((Exp.refPut s key n now).life), .slice a101 ((Exp.refPut s key n now).entries).length c102] 24, box B16 [.int .i64 (((Exp.sweep s now).1).life), .slice a10 (((Exp.sweep s now).1).entries).length c11] 24, ⟨S8, fun w => SlR tEntry S8 w a10 c11 (((Exp.sweep s now).1).entries) ∧ SlR tInt S8 w a12 c13 ((Exp.sweep s now).2)⟩, box B7 [.int .i64 ((Exp.put s key n now).life), .slice a4 ((Exp.put s key n now).entries).length c5] 24, own tEntry S2 a4 c5 ((Exp.put s key n now).entries), box B1 [.int .i64 s.life, .slice as_0 s.entries.length cs_0] 24, base w0]
          refine c_seq ?_
          refine c_seq ?_
          refine c_region ?_
          refine o_pure (p_move (v := .int .i64 (i : Int)) rfl) rfl rfl rfl ?_
          refine o_pure (p_fieldAddr (B := B1) (j := 0) (j' := 1) rfl fo24_1 rfl) rfl rfl rfl ?_
          refine o_pure (p_load (i := 8) (v := .slice as_0 s.entries.length cs_0) rfl rfl sh22 rfl) rfl rfl rfl ?_
          refine o_pure (p_len_slice (len := s.entries.length) rfl rfl Try.underlying22) rfl rfl rfl ?_
          refine o_pure (p_lt (p := (i : Int)) (q := (s.entries.length : Int)) rfl rfl) rfl rfl rfl ?_
          refine o_pure (p_move (v := .bool (decide ((i : Int) < (s.entries.length : Int)))) rfl) rfl rfl rfl ?_
          refine o_and (p := 124) 3 (t == 0) ?_ ?_ ?_
          · intro hb108 hk
            simp only [decide_eq_true_eq] at hb108
            refine o_unguard 121 rfl rfl ?_
            refine o_pure (p_move (v := .int .i64 t) rfl) rfl rfl rfl ?_
            refine o_unguard 121 rfl rfl ?_
            refine o_pure (p_eq (p := t) (q := 0) rfl rfl) rfl rfl rfl ?_
            refine o_pure (p_pick_true (u := .bool (t == 0)) rfl rfl) rfl rfl rfl ?_
            exact o_sub (Sub.cons rfl (Sub.skip rfl (Sub.skip rfl (Sub.skip rfl (Sub.skip rfl (Sub.refl _)))))) hk
          · intro hb108 hk
            refine o_guard_no rfl 121 rfl rfl rfl rfl rfl ?_
            refine o_guard_no rfl 121 rfl rfl rfl rfl rfl ?_
            refine o_pure (p_pick_false (v := .bool false) rfl rfl) rfl rfl rfl ?_
            exact o_sub (Sub.cons rfl (Sub.skip rfl (Sub.skip rfl (Sub.skip rfl (Sub.skip rfl (Sub.refl _)))))) hk
          refine o_nil ?_
          refine q_then ?_
          refine c_cond (b := (decide ((i : Int) < (s.entries.length : Int)) && (t == 0))) rfl (fun hc109 => ?_) (fun hc109 => ?_)
          · simp only [Bool.and_eq_true, decide_eq_true_eq, beq_iff_eq] at hc109
            have hg := hc109
            have hcs : Exp.check s = 0 := by omega
            refine c_skip ?_
            refine q_then ?_
            refine c_seq ?_
            refine c_block ?_
            refine c_seq ?_
            refine c_region ?_
            refine o_pure (p_move (v := .int .i64 (i : Int)) rfl) rfl rfl rfl ?_
            refine o_pure (p_eq (p := (i : Int)) (q := 0) rfl rfl) rfl rfl rfl ?_
            refine o_pure (p_move (v := .bool ((i : Int) == 0)) rfl) rfl rfl rfl ?_
            refine o_or (p := 138) 9 (decide ((s.entries[i]).till < next)) ?_ ?_ ?_
            · intro hb110 hk
              simp only [beq_eq_false_iff_ne, ne_eq] at hb110
              refine o_unguard 129 rfl rfl ?_
              refine o_pure (p_fieldAddr (B := B1) (j := 0) (j' := 1) rfl fo24_1 rfl) rfl rfl rfl ?_
              refine o_unguard 129 rfl rfl ?_
              refine o_pure (p_load (i := 8) (v := .slice as_0 s.entries.length cs_0) rfl rfl sh22 rfl) rfl rfl rfl ?_
              refine o_unguard 129 rfl rfl ?_
              refine o_pure (p_move (v := .int .i64 (i : Int)) rfl) rfl rfl rfl ?_
              refine o_unguard 129 rfl rfl ?_
              refine o_pure (p_indexAddr (L := s.entries) (T := tEntry) (i := (i : Int)) rfl rfl (rd_base (i := 9) rfl hs_0) Try.underlying22 sz42 (by omega) (by omega)) rfl rfl rfl ?_
              refine o_unguard 129 rfl rfl ?_
              refine o_pure (p_fieldAddrE rfl fo42_2) rfl rfl rfl ?_
              refine o_unguard 129 rfl rfl ?_
              refine o_pure (p_loadF (i := i) (j := 2) (T := tEntry) (L := s.entries) (v := .int .i64 ((s.entries[i]).till)) rfl (rd_base (i := 9) rfl hs_0) (by first | assumption | omega) sh3 rfl) rfl rfl rfl ?_
              refine o_unguard 129 rfl rfl ?_
              refine o_pure (p_move (v := .int .i64 next) rfl) rfl rfl rfl ?_
              refine o_unguard 129 rfl rfl ?_
              refine o_pure (p_lt (p := (s.entries[i]).till) (q := next) rfl rfl) rfl rfl rfl ?_
              refine o_pure (p_pick_false (v := .bool (decide ((s.entries[i]).till < next))) rfl rfl) rfl rfl rfl ?_
              exact o_sub (Sub.cons rfl (Sub.skip rfl (Sub.skip rfl (Sub.skip rfl (Sub.skip rfl (Sub.skip rfl (Sub.skip rfl (Sub.skip rfl (Sub.skip rfl (Sub.skip rfl (Sub.skip rfl (Sub.refl _)))))))))))) hk
            · intro hb110 hk
              refine o_guard_no rfl 129 rfl rfl rfl rfl rfl ?_
              refine o_guard_no rfl 129 rfl rfl rfl rfl rfl ?_
              refine o_guard_no rfl 129 rfl rfl rfl rfl rfl ?_
              refine o_guard_no rfl 129 rfl rfl rfl rfl rfl ?_
              refine o_guard_no rfl 129 rfl rfl rfl rfl rfl ?_
              refine o_guard_no rfl 129 rfl rfl rfl rfl rfl ?_
              refine o_guard_no rfl 129 rfl rfl rfl rfl rfl ?_
              refine o_guard_no rfl 129 rfl rfl rfl rfl rfl ?_
              refine o_pure (p_pick_true (u := .bool true) rfl rfl) rfl rfl rfl ?_
              exact o_sub (Sub.cons rfl (Sub.skip rfl (Sub.skip rfl (Sub.skip rfl (Sub.skip rfl (Sub.skip rfl (Sub.skip rfl (Sub.skip rfl (Sub.skip rfl (Sub.skip rfl (Sub.skip rfl (Sub.refl _)))))))))))) hk
            refine o_nil ?_
            refine q_then ?_
            refine c_cond (b := (((i : Int) == 0) || decide ((s.entries[i]).till < next))) rfl (fun hc111 => ?_) (fun hc111 => ?_)
            · simp only [Bool.or_eq_true, beq_iff_eq, decide_eq_true_eq] at hc111
              refine c_region ?_
              refine o_pure (p_fieldAddr (B := B1) (j := 0) (j' := 1) rfl fo24_1 rfl) rfl rfl rfl ?_
              refine o_pure (p_load (i := 8) (v := .slice as_0 s.entries.length cs_0) rfl rfl sh22 rfl) rfl rfl rfl ?_
              refine o_pure (p_move (v := .int .i64 (i : Int)) rfl) rfl rfl rfl ?_
              refine o_pure (p_indexAddr (L := s.entries) (T := tEntry) (i := (i : Int)) rfl rfl (rd_base (i := 9) rfl hs_0) Try.underlying22 sz42 (by omega) (by omega)) rfl rfl rfl ?_
              refine o_pure (p_fieldAddrE rfl fo42_2) rfl rfl rfl ?_
              refine o_pure (p_loadF (i := i) (j := 2) (T := tEntry) (L := s.entries) (v := .int .i64 ((s.entries[i]).till)) rfl (rd_base (i := 9) rfl hs_0) (by first | assumption | omega) sh3 rfl) rfl rfl rfl ?_
              refine o_pure (p_assign (v := .int .i64 ((s.entries[i]).till)) rfl) rfl rfl rfl ?_
              refine o_nil ?_
              refine q_block_normal (q_then ?_)
              refine c_region ?_
              refine o_pure (p_move (v := .int .i64 (i : Int)) rfl) rfl rfl rfl ?_
              refine o_pure (p_addb (p := (i : Int)) (q := 1) rfl rfl (by omega)) rfl rfl rfl ?_
              refine o_pure (p_assign (v := .int .i64 ((i : Int) + 1)) rfl) rfl rfl rfl ?_
              refine o_nil ?_
              refine q_round hK107 ((s.entries[i]).till, i + 1) ?_ ?_ ?_ ?_
              · clear hK107
                first | exact ⟨by omega, (Exp.lt_next hI.2.1 (by omega)).1 (by omega), .inr hcs⟩ | exact ⟨by omega, (Exp.lt_next hI.2.1 (by omega)).2 (by omega), .inr hcs⟩
              · (try dsimp only); omega
              · exact Sub.cons rfl (Sub.cons rfl (Sub.cons rfl (Sub.cons rfl (Sub.cons rfl (Sub.cons rfl (Sub.cons rfl (Sub.cons rfl (Sub.cons rfl (Sub.cons rfl (Sub.cons rfl (Sub.cons rfl (Sub.cons rfl (Sub.cons rfl (Sub.cons rfl (Sub.cons rfl (Sub.cons rfl (Sub.cons rfl (Sub.cons rfl (Sub.cons rfl (Sub.cons rfl (Sub.cons rfl (Sub.cons rfl (Sub.nil _)))))))))))))))))))))))
              · exact fun _ hw => HeapIs.pick hw [0, 1, 2, 3, 4, 5, 6, 7, 8, 9] (by decide) rfl
            · simp only [Bool.or_eq_false_iff, beq_eq_false_iff_ne, ne_eq, decide_eq_false_iff_not, Int.not_lt] at hc111
              refine c_skip ?_
              refine q_block_normal (q_then ?_)
              refine c_region ?_
              refine o_pure (p_move (v := .int .i64 (i : Int)) rfl) rfl rfl rfl ?_
              refine o_pure (p_addb (p := (i : Int)) (q := 1) rfl rfl (by omega)) rfl rfl rfl ?_
              refine o_pure (p_assign (v := .int .i64 ((i : Int) + 1)) rfl) rfl rfl rfl ?_
              refine o_nil ?_
              refine q_round hK107 (next, i + 1) ?_ ?_ ?_ ?_
              · clear hK107
                first | exact ⟨by omega, (Exp.lt_next hI.2.1 (by omega)).1 (by omega), .inr hcs⟩ | exact ⟨by omega, (Exp.lt_next hI.2.1 (by omega)).2 (by omega), .inr hcs⟩
              · (try dsimp only); omega
              · exact Sub.cons rfl (Sub.cons rfl (Sub.cons rfl (Sub.cons rfl (Sub.cons rfl (Sub.cons rfl (Sub.cons rfl (Sub.cons rfl (Sub.cons rfl (Sub.cons rfl (Sub.cons rfl (Sub.cons rfl (Sub.cons rfl (Sub.cons rfl (Sub.cons rfl (Sub.cons rfl (Sub.cons rfl (Sub.cons rfl (Sub.cons rfl (Sub.cons rfl (Sub.cons rfl (Sub.cons rfl (Sub.cons rfl (Sub.nil _)))))))))))))))))))))))
              · exact fun _ hw => HeapIs.pick hw [0, 1, 2, 3, 4, 5, 6, 7, 8, 9] (by decide) rfl
          · simp only [Bool.and_eq_false_iff, decide_eq_false_iff_not, Int.not_lt, beq_eq_false_iff_ne, ne_eq] at hc109
            have hle9 := hc109
            have hnx : 0 < s.entries.length → Exp.check s = 0 → next = Exp.least s.entries := fun h1 h2 => Exp.lt_end hI.2.1 (by omega) h1
            have hn0 : i = 0 → next = 0 := fun h => by rw [hI.2.1, h]; rfl
            have hi0 := hI.1
            have hi1 := hI.2.2
            refine c_exit ?_
            refine q_then_exit (q_then_exit (q_block_exit (q_then ?_)))
            refine c_seq ?_
            refine c_region ?_
            refine o_call0 (v := .bool true) rfl (expireBegun_ok ) hf24 (fun _ _ => trivial) rfl ?_
            refine o_pure (p_move (v := .bool true) rfl) rfl rfl rfl ?_
            refine o_unguard 146 rfl rfl ?_
            refine o_pure (p_load_agg (i := 8) (vs := [.int .i64 s.life, .slice as_0 s.entries.length cs_0]) rfl rfl sh24 rfl rfl) rfl rfl rfl ?_
            refine o_unguard 146 rfl rfl ?_
            refine o_call0 (v := .int .i64 (Exp.check s)) rfl (echeck_ok s as_0 cs_0) hf25 (fun w hw => (rd_base (i := 9) rfl hs_0) w hw) rfl ?_
            refine o_unguard 146 rfl rfl ?_
            refine o_pure (p_move (v := .int .i64 (Exp.check s)) rfl) rfl rfl rfl ?_
            refine o_unguard 146 rfl rfl ?_
            refine o_pure (p_eq (p := (Exp.check s)) (q := (Exp.check s)) rfl rfl) rfl rfl rfl ?_
            refine o_pure (p_pick_true (u := .bool ((Exp.check s) == (Exp.check s))) rfl rfl) rfl rfl rfl ?_
            refine o_pure (p_move (v := .bool ((Exp.check s) == (Exp.check s))) rfl) rfl rfl rfl ?_
            refine o_and (p := 156) 4 (decide ((Exp.put s key n now) = (Exp.refPut s key n now))) ?_ ?_ ?_
            · intro hb112 hk
              simp only [beq_iff_eq] at hb112
              refine o_unguard 152 rfl rfl ?_
              refine o_pure (p_load_agg (i := 6) (vs := [.int .i64 ((Exp.put s key n now).life), .slice a4 ((Exp.put s key n now).entries).length c5]) rfl rfl sh24 rfl rfl) rfl rfl rfl ?_
              refine o_unguard 152 rfl rfl ?_
              refine o_pure (p_load_agg (i := 3) (vs := [.int .i64 ((Exp.refPut s key n now).life), .slice a101 ((Exp.refPut s key n now).entries).length c102]) rfl rfl sh24 rfl rfl) rfl rfl rfl ?_
              refine o_unguard 152 rfl rfl ?_
              refine o_call0 (v := .bool (decide ((Exp.put s key n now) = (Exp.refPut s key n now)))) rfl (sameLasting_ok (Exp.put s key n now) a4 c5 (Exp.refPut s key n now) a101 c102) hf26 (fun w hw => ⟨(rd_own (i := 7) rfl) w hw, (rd_own (i := 0) rfl) w hw⟩) rfl ?_
              refine o_pure (p_pick_true (u := .bool (decide ((Exp.put s key n now) = (Exp.refPut s key n now)))) rfl rfl) rfl rfl rfl ?_
              exact o_sub (Sub.cons rfl (Sub.skip rfl (Sub.skip rfl (Sub.skip rfl (Sub.skip rfl (Sub.skip rfl (Sub.refl _))))))) hk
            · intro hb112 hk
              refine o_guard_no rfl 152 rfl rfl rfl rfl rfl ?_
              refine o_guard_no rfl 152 rfl rfl rfl rfl rfl ?_
              refine o_guard_no rfl 152 rfl rfl rfl rfl rfl ?_
              refine o_pure (p_pick_false (v := .bool false) rfl rfl) rfl rfl rfl ?_
              exact o_sub (Sub.cons rfl (Sub.skip rfl (Sub.skip rfl (Sub.skip rfl (Sub.skip rfl (Sub.skip rfl (Sub.refl _))))))) hk
            refine o_pure (p_move (v := .bool (((Exp.check s) == (Exp.check s)) && (decide ((Exp.put s key n now) = (Exp.refPut s key n now))))) rfl) rfl rfl rfl ?_
            refine o_and (p := 161) 4 ((Exp.putErr s key n now) == (Exp.refErr s key n now)) ?_ ?_ ?_
            · intro hb113 hk
              simp only [Bool.and_eq_true, beq_iff_eq, decide_eq_true_eq] at hb113
              refine o_unguard 157 rfl rfl ?_
              refine o_pure (p_move (v := .int .i64 (Exp.putErr s key n now)) rfl) rfl rfl rfl ?_
              refine o_unguard 157 rfl rfl ?_
              refine o_pure (p_move (v := .int .i64 (Exp.refErr s key n now)) rfl) rfl rfl rfl ?_
              refine o_unguard 157 rfl rfl ?_
              refine o_pure (p_eq (p := (Exp.putErr s key n now)) (q := (Exp.refErr s key n now)) rfl rfl) rfl rfl rfl ?_
              refine o_pure (p_pick_true (u := .bool ((Exp.putErr s key n now) == (Exp.refErr s key n now))) rfl rfl) rfl rfl rfl ?_
              exact o_sub (Sub.cons rfl (Sub.skip rfl (Sub.skip rfl (Sub.skip rfl (Sub.skip rfl (Sub.skip rfl (Sub.refl _))))))) hk
            · intro hb113 hk
              refine o_guard_no rfl 157 rfl rfl rfl rfl rfl ?_
              refine o_guard_no rfl 157 rfl rfl rfl rfl rfl ?_
              refine o_guard_no rfl 157 rfl rfl rfl rfl rfl ?_
              refine o_pure (p_pick_false (v := .bool false) rfl rfl) rfl rfl rfl ?_
              exact o_sub (Sub.cons rfl (Sub.skip rfl (Sub.skip rfl (Sub.skip rfl (Sub.skip rfl (Sub.skip rfl (Sub.refl _))))))) hk
            refine o_pure (p_move (v := .bool ((((Exp.check s) == (Exp.check s)) && (decide ((Exp.put s key n now) = (Exp.refPut s key n now)))) && ((Exp.putErr s key n now) == (Exp.refErr s key n now)))) rfl) rfl rfl rfl ?_
            refine o_and (p := 166) 4 (((Exp.get s key now).1) == ((Exp.getGo s.entries key now).1)) ?_ ?_ ?_
            · intro hb114 hk
              simp only [Bool.and_eq_true, beq_iff_eq, decide_eq_true_eq] at hb114
              refine o_unguard 162 rfl rfl ?_
              refine o_pure (p_move (v := .int .i64 ((Exp.get s key now).1)) rfl) rfl rfl rfl ?_
              refine o_unguard 162 rfl rfl ?_
              refine o_pure (p_move (v := .int .i64 ((Exp.getGo s.entries key now).1)) rfl) rfl rfl rfl ?_
              refine o_unguard 162 rfl rfl ?_
              refine o_pure (p_eq (p := ((Exp.get s key now).1)) (q := ((Exp.getGo s.entries key now).1)) rfl rfl) rfl rfl rfl ?_
              refine o_pure (p_pick_true (u := .bool (((Exp.get s key now).1) == ((Exp.getGo s.entries key now).1))) rfl rfl) rfl rfl rfl ?_
              exact o_sub (Sub.cons rfl (Sub.skip rfl (Sub.skip rfl (Sub.skip rfl (Sub.skip rfl (Sub.skip rfl (Sub.refl _))))))) hk
            · intro hb114 hk
              refine o_guard_no rfl 162 rfl rfl rfl rfl rfl ?_
              refine o_guard_no rfl 162 rfl rfl rfl rfl rfl ?_
              refine o_guard_no rfl 162 rfl rfl rfl rfl rfl ?_
              refine o_pure (p_pick_false (v := .bool false) rfl rfl) rfl rfl rfl ?_
              exact o_sub (Sub.cons rfl (Sub.skip rfl (Sub.skip rfl (Sub.skip rfl (Sub.skip rfl (Sub.skip rfl (Sub.refl _))))))) hk
            refine o_pure (p_move (v := .bool (((((Exp.check s) == (Exp.check s)) && (decide ((Exp.put s key n now) = (Exp.refPut s key n now)))) && ((Exp.putErr s key n now) == (Exp.refErr s key n now))) && (((Exp.get s key now).1) == ((Exp.getGo s.entries key now).1)))) rfl) rfl rfl rfl ?_
            refine o_and (p := 171) 4 (((Exp.get s key now).2) == ((Exp.getGo s.entries key now).2)) ?_ ?_ ?_
            · intro hb115 hk
              simp only [Bool.and_eq_true, beq_iff_eq, decide_eq_true_eq] at hb115
              refine o_unguard 167 rfl rfl ?_
              refine o_pure (p_move (v := .bool ((Exp.get s key now).2)) rfl) rfl rfl rfl ?_
              refine o_unguard 167 rfl rfl ?_
              refine o_pure (p_move (v := .bool ((Exp.getGo s.entries key now).2)) rfl) rfl rfl rfl ?_
              refine o_unguard 167 rfl rfl ?_
              refine o_pure (p_eqBool (b := ((Exp.get s key now).2)) (c := ((Exp.getGo s.entries key now).2)) rfl rfl Try.underlying4) rfl rfl rfl ?_
              refine o_pure (p_pick_true (u := .bool (((Exp.get s key now).2) == ((Exp.getGo s.entries key now).2))) rfl rfl) rfl rfl rfl ?_
              exact o_sub (Sub.cons rfl (Sub.skip rfl (Sub.skip rfl (Sub.skip rfl (Sub.skip rfl (Sub.skip rfl (Sub.refl _))))))) hk
            · intro hb115 hk
              refine o_guard_no rfl 167 rfl rfl rfl rfl rfl ?_
              refine o_guard_no rfl 167 rfl rfl rfl rfl rfl ?_
              refine o_guard_no rfl 167 rfl rfl rfl rfl rfl ?_
              refine o_pure (p_pick_false (v := .bool false) rfl rfl) rfl rfl rfl ?_
              exact o_sub (Sub.cons rfl (Sub.skip rfl (Sub.skip rfl (Sub.skip rfl (Sub.skip rfl (Sub.skip rfl (Sub.refl _))))))) hk
            refine o_pure (p_move (v := .bool ((((((Exp.check s) == (Exp.check s)) && (decide ((Exp.put s key n now) = (Exp.refPut s key n now)))) && ((Exp.putErr s key n now) == (Exp.refErr s key n now))) && (((Exp.get s key now).1) == ((Exp.getGo s.entries key now).1))) && (((Exp.get s key now).2) == ((Exp.getGo s.entries key now).2)))) rfl) rfl rfl rfl ?_
            refine o_and (p := 176) 4 ((Exp.getErr s key now) == (Exp.nowErr s now)) ?_ ?_ ?_
            · intro hb116 hk
              simp only [Bool.and_eq_true, beq_iff_eq, decide_eq_true_eq] at hb116
              refine o_unguard 172 rfl rfl ?_
              refine o_pure (p_move (v := .int .i64 (Exp.getErr s key now)) rfl) rfl rfl rfl ?_
              refine o_unguard 172 rfl rfl ?_
              refine o_pure (p_move (v := .int .i64 (Exp.nowErr s now)) rfl) rfl rfl rfl ?_
              refine o_unguard 172 rfl rfl ?_
              refine o_pure (p_eq (p := (Exp.getErr s key now)) (q := (Exp.nowErr s now)) rfl rfl) rfl rfl rfl ?_
              refine o_pure (p_pick_true (u := .bool ((Exp.getErr s key now) == (Exp.nowErr s now))) rfl rfl) rfl rfl rfl ?_
              exact o_sub (Sub.cons rfl (Sub.skip rfl (Sub.skip rfl (Sub.skip rfl (Sub.skip rfl (Sub.skip rfl (Sub.refl _))))))) hk
            · intro hb116 hk
              refine o_guard_no rfl 172 rfl rfl rfl rfl rfl ?_
              refine o_guard_no rfl 172 rfl rfl rfl rfl rfl ?_
              refine o_guard_no rfl 172 rfl rfl rfl rfl rfl ?_
              refine o_pure (p_pick_false (v := .bool false) rfl rfl) rfl rfl rfl ?_
              exact o_sub (Sub.cons rfl (Sub.skip rfl (Sub.skip rfl (Sub.skip rfl (Sub.skip rfl (Sub.skip rfl (Sub.refl _))))))) hk
            refine o_pure (p_move (v := .bool (((((((Exp.check s) == (Exp.check s)) && (decide ((Exp.put s key n now) = (Exp.refPut s key n now)))) && ((Exp.putErr s key n now) == (Exp.refErr s key n now))) && (((Exp.get s key now).1) == ((Exp.getGo s.entries key now).1))) && (((Exp.get s key now).2) == ((Exp.getGo s.entries key now).2))) && ((Exp.getErr s key now) == (Exp.nowErr s now)))) rfl) rfl rfl rfl ?_
            refine o_and (p := 181) 4 (decide (((Exp.sweep s now).1) = (⟨s.life, Exp.live now s.entries⟩ : DStore))) ?_ ?_ ?_
            · intro hb117 hk
              simp only [Bool.and_eq_true, beq_iff_eq, decide_eq_true_eq] at hb117
              refine o_unguard 177 rfl rfl ?_
              refine o_pure (p_load_agg (i := 4) (vs := [.int .i64 (((Exp.sweep s now).1).life), .slice a10 (((Exp.sweep s now).1).entries).length c11]) rfl rfl sh24 rfl rfl) rfl rfl rfl ?_
              refine o_unguard 177 rfl rfl ?_
              refine o_pure (p_load_agg (i := 2) (vs := [.int .i64 s.life, .slice a72 (Exp.live now s.entries).length c73]) rfl rfl sh24 rfl rfl) rfl rfl rfl ?_
              refine o_unguard 177 rfl rfl ?_
              refine o_call0 (v := .bool (decide (((Exp.sweep s now).1) = (⟨s.life, Exp.live now s.entries⟩ : DStore)))) rfl (sameLasting_ok ((Exp.sweep s now).1) a10 c11 (⟨s.life, Exp.live now s.entries⟩ : DStore) a72 c73) hf26 (fun w hw => ⟨(rd_ent (i := 5) rfl (fun w h => h.1)) w hw, (rd_ent (i := 1) rfl (fun w h => h.1)) w hw⟩) rfl ?_
              refine o_pure (p_pick_true (u := .bool (decide (((Exp.sweep s now).1) = (⟨s.life, Exp.live now s.entries⟩ : DStore)))) rfl rfl) rfl rfl rfl ?_
              exact o_sub (Sub.cons rfl (Sub.skip rfl (Sub.skip rfl (Sub.skip rfl (Sub.skip rfl (Sub.skip rfl (Sub.refl _))))))) hk
            · intro hb117 hk
              refine o_guard_no rfl 177 rfl rfl rfl rfl rfl ?_
              refine o_guard_no rfl 177 rfl rfl rfl rfl rfl ?_
              refine o_guard_no rfl 177 rfl rfl rfl rfl rfl ?_
              refine o_pure (p_pick_false (v := .bool false) rfl rfl) rfl rfl rfl ?_
              exact o_sub (Sub.cons rfl (Sub.skip rfl (Sub.skip rfl (Sub.skip rfl (Sub.skip rfl (Sub.skip rfl (Sub.refl _))))))) hk
            refine o_pure (p_move (v := .bool ((((((((Exp.check s) == (Exp.check s)) && (decide ((Exp.put s key n now) = (Exp.refPut s key n now)))) && ((Exp.putErr s key n now) == (Exp.refErr s key n now))) && (((Exp.get s key now).1) == ((Exp.getGo s.entries key now).1))) && (((Exp.get s key now).2) == ((Exp.getGo s.entries key now).2))) && ((Exp.getErr s key now) == (Exp.nowErr s now))) && (decide (((Exp.sweep s now).1) = (⟨s.life, Exp.live now s.entries⟩ : DStore))))) rfl) rfl rfl rfl ?_
            refine o_and (p := 186) 4 (Ref.sameInts ((Exp.sweep s now).2) (Exp.over now s.entries)) ?_ ?_ ?_
            · intro hb118 hk
              simp only [Bool.and_eq_true, beq_iff_eq, decide_eq_true_eq] at hb118
              refine o_unguard 182 rfl rfl ?_
              refine o_pure (p_move (v := .slice a12 ((Exp.sweep s now).2).length c13) rfl) rfl rfl rfl ?_
              refine o_unguard 182 rfl rfl ?_
              refine o_pure (p_move (v := .slice a74 (Exp.over now s.entries).length c75) rfl) rfl rfl rfl ?_
              refine o_unguard 182 rfl rfl ?_
              refine o_call0 (v := .bool (Ref.sameInts ((Exp.sweep s now).2) (Exp.over now s.entries))) rfl (sameInts_ok ((Exp.sweep s now).2) a12 c13 (Exp.over now s.entries) a74 c75) hf27 (fun w hw => ⟨(rd_ent (i := 5) rfl (fun w h => h.2)) w hw, (rd_ent (i := 1) rfl (fun w h => h.2)) w hw⟩) rfl ?_
              refine o_pure (p_pick_true (u := .bool (Ref.sameInts ((Exp.sweep s now).2) (Exp.over now s.entries))) rfl rfl) rfl rfl rfl ?_
              exact o_sub (Sub.cons rfl (Sub.skip rfl (Sub.skip rfl (Sub.skip rfl (Sub.skip rfl (Sub.skip rfl (Sub.refl _))))))) hk
            · intro hb118 hk
              refine o_guard_no rfl 182 rfl rfl rfl rfl rfl ?_
              refine o_guard_no rfl 182 rfl rfl rfl rfl rfl ?_
              refine o_guard_no rfl 182 rfl rfl rfl rfl rfl ?_
              refine o_pure (p_pick_false (v := .bool false) rfl rfl) rfl rfl rfl ?_
              exact o_sub (Sub.cons rfl (Sub.skip rfl (Sub.skip rfl (Sub.skip rfl (Sub.skip rfl (Sub.skip rfl (Sub.refl _))))))) hk
            refine o_pure (p_move (v := .bool (((((((((Exp.check s) == (Exp.check s)) && (decide ((Exp.put s key n now) = (Exp.refPut s key n now)))) && ((Exp.putErr s key n now) == (Exp.refErr s key n now))) && (((Exp.get s key now).1) == ((Exp.getGo s.entries key now).1))) && (((Exp.get s key now).2) == ((Exp.getGo s.entries key now).2))) && ((Exp.getErr s key now) == (Exp.nowErr s now))) && (decide (((Exp.sweep s now).1) = (⟨s.life, Exp.live now s.entries⟩ : DStore)))) && (Ref.sameInts ((Exp.sweep s now).2) (Exp.over now s.entries)))) rfl) rfl rfl rfl ?_
            refine o_and (p := 191) 4 ((Exp.nowErr s now) == (Exp.nowErr s now)) ?_ ?_ ?_
            · intro hb119 hk
              simp only [Bool.and_eq_true, beq_iff_eq, decide_eq_true_eq] at hb119
              refine o_unguard 187 rfl rfl ?_
              refine o_pure (p_move (v := .int .i64 (Exp.nowErr s now)) rfl) rfl rfl rfl ?_
              refine o_unguard 187 rfl rfl ?_
              refine o_pure (p_move (v := .int .i64 (Exp.nowErr s now)) rfl) rfl rfl rfl ?_
              refine o_unguard 187 rfl rfl ?_
              refine o_pure (p_eq (p := (Exp.nowErr s now)) (q := (Exp.nowErr s now)) rfl rfl) rfl rfl rfl ?_
              refine o_pure (p_pick_true (u := .bool ((Exp.nowErr s now) == (Exp.nowErr s now))) rfl rfl) rfl rfl rfl ?_
              exact o_sub (Sub.cons rfl (Sub.skip rfl (Sub.skip rfl (Sub.skip rfl (Sub.skip rfl (Sub.skip rfl (Sub.refl _))))))) hk
            · intro hb119 hk
              refine o_guard_no rfl 187 rfl rfl rfl rfl rfl ?_
              refine o_guard_no rfl 187 rfl rfl rfl rfl rfl ?_
              refine o_guard_no rfl 187 rfl rfl rfl rfl rfl ?_
              refine o_pure (p_pick_false (v := .bool false) rfl rfl) rfl rfl rfl ?_
              exact o_sub (Sub.cons rfl (Sub.skip rfl (Sub.skip rfl (Sub.skip rfl (Sub.skip rfl (Sub.skip rfl (Sub.refl _))))))) hk
            refine o_pure (p_move (v := .bool ((((((((((Exp.check s) == (Exp.check s)) && (decide ((Exp.put s key n now) = (Exp.refPut s key n now)))) && ((Exp.putErr s key n now) == (Exp.refErr s key n now))) && (((Exp.get s key now).1) == ((Exp.getGo s.entries key now).1))) && (((Exp.get s key now).2) == ((Exp.getGo s.entries key now).2))) && ((Exp.getErr s key now) == (Exp.nowErr s now))) && (decide (((Exp.sweep s now).1) = (⟨s.life, Exp.live now s.entries⟩ : DStore)))) && (Ref.sameInts ((Exp.sweep s now).2) (Exp.over now s.entries))) && ((Exp.nowErr s now) == (Exp.nowErr s now)))) rfl) rfl rfl rfl ?_
            refine o_and (p := 196) 4 ((Exp.next s) == next) ?_ ?_ ?_
            · intro hb120 hk
              simp only [Bool.and_eq_true, beq_iff_eq, decide_eq_true_eq] at hb120
              refine o_unguard 192 rfl rfl ?_
              refine o_pure (p_move (v := .int .i64 (Exp.next s)) rfl) rfl rfl rfl ?_
              refine o_unguard 192 rfl rfl ?_
              refine o_pure (p_move (v := .int .i64 next) rfl) rfl rfl rfl ?_
              refine o_unguard 192 rfl rfl ?_
              refine o_pure (p_eq (p := (Exp.next s)) (q := next) rfl rfl) rfl rfl rfl ?_
              refine o_pure (p_pick_true (u := .bool ((Exp.next s) == next)) rfl rfl) rfl rfl rfl ?_
              exact o_sub (Sub.cons rfl (Sub.skip rfl (Sub.skip rfl (Sub.skip rfl (Sub.skip rfl (Sub.skip rfl (Sub.refl _))))))) hk
            · intro hb120 hk
              refine o_guard_no rfl 192 rfl rfl rfl rfl rfl ?_
              refine o_guard_no rfl 192 rfl rfl rfl rfl rfl ?_
              refine o_guard_no rfl 192 rfl rfl rfl rfl rfl ?_
              refine o_pure (p_pick_false (v := .bool false) rfl rfl) rfl rfl rfl ?_
              exact o_sub (Sub.cons rfl (Sub.skip rfl (Sub.skip rfl (Sub.skip rfl (Sub.skip rfl (Sub.skip rfl (Sub.refl _))))))) hk
            refine o_pure (p_move (v := .bool (((((((((((Exp.check s) == (Exp.check s)) && (decide ((Exp.put s key n now) = (Exp.refPut s key n now)))) && ((Exp.putErr s key n now) == (Exp.refErr s key n now))) && (((Exp.get s key now).1) == ((Exp.getGo s.entries key now).1))) && (((Exp.get s key now).2) == ((Exp.getGo s.entries key now).2))) && ((Exp.getErr s key now) == (Exp.nowErr s now))) && (decide (((Exp.sweep s now).1) = (⟨s.life, Exp.live now s.entries⟩ : DStore)))) && (Ref.sameInts ((Exp.sweep s now).2) (Exp.over now s.entries))) && ((Exp.nowErr s now) == (Exp.nowErr s now))) && ((Exp.next s) == next))) rfl) rfl rfl rfl ?_
            refine o_and (p := 201) 4 ((Exp.nextErr s) == t) ?_ ?_ ?_
            · intro hb121 hk
              simp only [Bool.and_eq_true, beq_iff_eq, decide_eq_true_eq] at hb121
              refine o_unguard 197 rfl rfl ?_
              refine o_pure (p_move (v := .int .i64 (Exp.nextErr s)) rfl) rfl rfl rfl ?_
              refine o_unguard 197 rfl rfl ?_
              refine o_pure (p_move (v := .int .i64 t) rfl) rfl rfl rfl ?_
              refine o_unguard 197 rfl rfl ?_
              refine o_pure (p_eq (p := (Exp.nextErr s)) (q := t) rfl rfl) rfl rfl rfl ?_
              refine o_pure (p_pick_true (u := .bool ((Exp.nextErr s) == t)) rfl rfl) rfl rfl rfl ?_
              exact o_sub (Sub.cons rfl (Sub.skip rfl (Sub.skip rfl (Sub.skip rfl (Sub.skip rfl (Sub.skip rfl (Sub.refl _))))))) hk
            · intro hb121 hk
              refine o_guard_no rfl 197 rfl rfl rfl rfl rfl ?_
              refine o_guard_no rfl 197 rfl rfl rfl rfl rfl ?_
              refine o_guard_no rfl 197 rfl rfl rfl rfl rfl ?_
              refine o_pure (p_pick_false (v := .bool false) rfl rfl) rfl rfl rfl ?_
              exact o_sub (Sub.cons rfl (Sub.skip rfl (Sub.skip rfl (Sub.skip rfl (Sub.skip rfl (Sub.skip rfl (Sub.refl _))))))) hk
            refine o_pure (p_assign (v := .bool ((((((((((((Exp.check s) == (Exp.check s)) && (decide ((Exp.put s key n now) = (Exp.refPut s key n now)))) && ((Exp.putErr s key n now) == (Exp.refErr s key n now))) && (((Exp.get s key now).1) == ((Exp.getGo s.entries key now).1))) && (((Exp.get s key now).2) == ((Exp.getGo s.entries key now).2))) && ((Exp.getErr s key now) == (Exp.nowErr s now))) && (decide (((Exp.sweep s now).1) = (⟨s.life, Exp.live now s.entries⟩ : DStore)))) && (Ref.sameInts ((Exp.sweep s now).2) (Exp.over now s.entries))) && ((Exp.nowErr s now) == (Exp.nowErr s now))) && ((Exp.next s) == next)) && ((Exp.nextErr s) == t))) rfl) rfl rfl rfl ?_
            refine o_nil ?_
            refine q_then ?_
            refine c_ret ?_
            have hr0 : (((((((((((((Exp.check s) == (Exp.check s)) && (decide ((Exp.put s key n now) = (Exp.refPut s key n now)))) && ((Exp.putErr s key n now) == (Exp.refErr s key n now))) && (((Exp.get s key now).1) == ((Exp.getGo s.entries key now).1))) && (((Exp.get s key now).2) == ((Exp.getGo s.entries key now).2))) && ((Exp.getErr s key now) == (Exp.nowErr s now))) && (decide (((Exp.sweep s now).1) = (⟨s.life, Exp.live now s.entries⟩ : DStore)))) && (Ref.sameInts ((Exp.sweep s now).2) (Exp.over now s.entries))) && ((Exp.nowErr s now) == (Exp.nowErr s now))) && ((Exp.next s) == next)) && ((Exp.nextErr s) == t)) : Bool) = true := by
              rcases hJ with ⟨j0, j1, j2⟩ | ⟨j0, j1⟩ <;> rcases Exp.spec_a s key n now with ⟨a0, a1, a2, a3, a4⟩ | ⟨a0, a5, a1, a2, a3, a4⟩ | ⟨a0, a5, a6, a1, a2, a3, a4⟩ | ⟨a0, a5, a6, a1, a2, a3, a4⟩ <;> rcases Exp.spec_b s now with ⟨b0, b1⟩ | ⟨b0, b1⟩ <;> rcases Exp.spec_c s with ⟨c0, c1, c2⟩ | ⟨c0, c3, c1, c2⟩ | ⟨c0, c3, c1, c2⟩ <;> first | (exfalso; omega) | (rw [a1, a2, a3, a4, b1, c1, c2, hnx (by omega) (by omega), j0]; simp [Exp.zero, Ref.sameInts, a0, c0]; done) | (rw [a1, a2, a3, a4, b1, c1, c2, hn0 (by omega), j0]; simp [Exp.zero, Ref.sameInts, a0, c0]; done)
            refine q_end0 (v := .bool ((((((((((((Exp.check s) == (Exp.check s)) && (decide ((Exp.put s key n now) = (Exp.refPut s key n now)))) && ((Exp.putErr s key n now) == (Exp.refErr s key n now))) && (((Exp.get s key now).1) == ((Exp.getGo s.entries key now).1))) && (((Exp.get s key now).2) == ((Exp.getGo s.entries key now).2))) && ((Exp.getErr s key now) == (Exp.nowErr s now))) && (decide (((Exp.sweep s now).1) = (⟨s.life, Exp.live now s.entries⟩ : DStore)))) && (Ref.sameInts ((Exp.sweep s now).2) (Exp.over now s.entries))) && ((Exp.nowErr s now) == (Exp.nowErr s now))) && ((Exp.next s) == next)) && ((Exp.nextErr s) == t))) (rt1 rfl (r_tmp rfl)) (i := 9) rfl ?_
            exact (by have hcc := congrArg (fun (y0 : Bool) => (.bool y0 : Value)) hr0; exact hcc)
      · simp only [beq_eq_false_iff_ne, ne_eq] at hc78
        exfalso; first | contradiction | omega | simp_all
    · simp only [beq_eq_false_iff_ne, ne_eq] at hc69
      refine c_skip ?_
      refine q_then ?_
      refine c_seq ?_
      refine c_seq ?_
      refine c_region ?_
      refine o_pure (p_move (v := .int .i64 (Exp.nowErr s now)) rfl) rfl rfl rfl ?_
      refine o_pure (p_eq (p := (Exp.nowErr s now)) (q := 0) rfl rfl) rfl rfl rfl ?_
      refine o_nil ?_
      refine q_then ?_
      refine c_cond (b := ((Exp.nowErr s now) == 0)) rfl (fun hc122 => ?_) (fun hc122 => ?_)
      · simp only [beq_iff_eq] at hc122
        exfalso; first | contradiction | omega | simp_all
      · simp only [beq_eq_false_iff_ne, ne_eq] at hc122
        refine c_skip ?_
        refine q_then ?_
        refine c_seq ?_
        refine c_seq ?_
        refine c_region ?_
        refine o_pure (p_move (v := .int .i64 (Exp.check s)) rfl) rfl rfl rfl ?_
        refine o_pure (p_eq (p := (Exp.check s)) (q := 0) rfl rfl) rfl rfl rfl ?_
        refine o_pure (p_move (v := .bool ((Exp.check s) == 0)) rfl) rfl rfl rfl ?_
        refine o_and (p := 115) 5 ((s.entries.length : Int) == 0) ?_ ?_ ?_
        · intro hb123 hk
          simp only [beq_iff_eq] at hb123
          refine o_unguard 110 rfl rfl ?_
          refine o_pure (p_fieldAddr (B := B1) (j := 0) (j' := 1) rfl fo24_1 rfl) rfl rfl rfl ?_
          refine o_unguard 110 rfl rfl ?_
          refine o_pure (p_load (i := 6) (v := .slice as_0 s.entries.length cs_0) rfl rfl sh22 rfl) rfl rfl rfl ?_
          refine o_unguard 110 rfl rfl ?_
          refine o_pure (p_len_slice (len := s.entries.length) rfl rfl Try.underlying22) rfl rfl rfl ?_
          refine o_unguard 110 rfl rfl ?_
          refine o_pure (p_eq (p := (s.entries.length : Int)) (q := 0) rfl rfl) rfl rfl rfl ?_
          refine o_pure (p_pick_true (u := .bool ((s.entries.length : Int) == 0)) rfl rfl) rfl rfl rfl ?_
          exact o_sub (Sub.cons rfl (Sub.skip rfl (Sub.skip rfl (Sub.skip rfl (Sub.skip rfl (Sub.skip rfl (Sub.skip rfl (Sub.refl _)))))))) hk
        · intro hb123 hk
          refine o_guard_no rfl 110 rfl rfl rfl rfl rfl ?_
          refine o_guard_no rfl 110 rfl rfl rfl rfl rfl ?_
          refine o_guard_no rfl 110 rfl rfl rfl rfl rfl ?_
          refine o_guard_no rfl 110 rfl rfl rfl rfl rfl ?_
          refine o_pure (p_pick_false (v := .bool false) rfl rfl) rfl rfl rfl ?_
          exact o_sub (Sub.cons rfl (Sub.skip rfl (Sub.skip rfl (Sub.skip rfl (Sub.skip rfl (Sub.skip rfl (Sub.skip rfl (Sub.refl _)))))))) hk
        refine o_nil ?_
        refine q_then ?_
        refine c_join (G := Int)
          (fun t => [(4, .pointer (some ⟨B1, 0, none⟩)), (9, .pointer (some ⟨B7, 0, none⟩)), (10, .int .i64 (Exp.putErr s key n now)), (11, .int .i64 ((Exp.get s key now).1)), (12, .bool ((Exp.get s key now).2)), (13, .int .i64 (Exp.getErr s key now)), (14, .pointer (some ⟨B16, 0, none⟩)), (15, .slice a12 ((Exp.sweep s now).2).length c13), (16, .int .i64 (Exp.nowErr s now)), (17, .int .i64 (Exp.next s)), (18, .int .i64 (Exp.nextErr s)), (19, .int .i64 (Exp.check s)), (20, .int .i64 (Exp.nowErr s now)), (21, .int .i64 (Exp.nowErr s now)), (22, .int .i64 (Exp.nowErr s now)), (23, .int .i64 t), (24, .pointer (some ⟨B67, 0, none⟩)), (25, .pointer (some ⟨B68, 0, none⟩)), (26, .slice none 0 0), (27, .int .i64 0), (28, .bool false), (29, .int .i64 0)])
          (fun t => [box B68 [.int .i64 0, .slice none 0 0] 24, box B67 [.int .i64 0, .slice none 0 0] 24, box B16 [.int .i64 (((Exp.sweep s now).1).life), .slice a10 (((Exp.sweep s now).1).entries).length c11] 24, ⟨S8, fun w => SlR tEntry S8 w a10 c11 (((Exp.sweep s now).1).entries) ∧ SlR tInt S8 w a12 c13 ((Exp.sweep s now).2)⟩, box B7 [.int .i64 ((Exp.put s key n now).life), .slice a4 ((Exp.put s key n now).entries).length c5] 24, own tEntry S2 a4 c5 ((Exp.put s key n now).entries), box B1 [.int .i64 s.life, .slice as_0 s.entries.length cs_0] 24, base w0])
          (fun t => (t = 5 ∧ Exp.check s = 0 ∧ s.entries.length = 0) ∨ (t = Exp.check s ∧ (Exp.check s ≠ 0 ∨ 0 < s.entries.length)))
          (fun K hK124 => ?_) ?_
        · refine c_cond (b := (((Exp.check s) == 0) && ((s.entries.length : Int) == 0))) rfl (fun hc125 => ?_) (fun hc125 => ?_)
          · simp only [Bool.and_eq_true, beq_iff_eq] at hc125
            have hcl := hc125
            refine c_region ?_
            refine o_pure (p_assign (v := .int .i64 5) rfl) rfl rfl rfl ?_
            refine o_nil ?_
            refine q_join hK124 5 ?_ (Sub.cons rfl (Sub.cons rfl (Sub.cons rfl (Sub.cons rfl (Sub.cons rfl (Sub.cons rfl (Sub.cons rfl (Sub.cons rfl (Sub.cons rfl (Sub.cons rfl (Sub.cons rfl (Sub.cons rfl (Sub.cons rfl (Sub.cons rfl (Sub.cons rfl (Sub.cons rfl (Sub.cons rfl (Sub.cons rfl (Sub.cons rfl (Sub.cons rfl (Sub.cons rfl (Sub.cons rfl (Sub.nil _))))))))))))))))))))))) (fun _ hw => HeapIs.pick hw [0, 1, 2, 3, 4, 5, 6, 7] (by decide) rfl)
            clear hK124
            first | exact .inl ⟨rfl, hcl.1, by omega⟩ | exact .inr ⟨rfl, by omega⟩
          · simp only [Bool.and_eq_false_iff, beq_eq_false_iff_ne, ne_eq] at hc125
            have hcl := hc125
            refine c_skip ?_
            refine q_join hK124 (Exp.check s) ?_ (Sub.cons rfl (Sub.cons rfl (Sub.cons rfl (Sub.cons rfl (Sub.cons rfl (Sub.cons rfl (Sub.cons rfl (Sub.cons rfl (Sub.cons rfl (Sub.cons rfl (Sub.cons rfl (Sub.cons rfl (Sub.cons rfl (Sub.cons rfl (Sub.cons rfl (Sub.cons rfl (Sub.cons rfl (Sub.cons rfl (Sub.cons rfl (Sub.cons rfl (Sub.cons rfl (Sub.cons rfl (Sub.nil _))))))))))))))))))))))) (fun _ hw => HeapIs.pick hw [0, 1, 2, 3, 4, 5, 6, 7] (by decide) rfl)
            clear hK124
            first | exact .inl ⟨rfl, hcl.1, by omega⟩ | exact .inr ⟨rfl, by omega⟩
        rintro t hJ
        show SQ _ 202 w0 _ _ [(4, .pointer (some ⟨B1, 0, none⟩)), (9, .pointer (some ⟨B7, 0, none⟩)), (10, .int .i64 (Exp.putErr s key n now)), (11, .int .i64 ((Exp.get s key now).1)), (12, .bool ((Exp.get s key now).2)), (13, .int .i64 (Exp.getErr s key now)), (14, .pointer (some ⟨B16, 0, none⟩)), (15, .slice a12 ((Exp.sweep s now).2).length c13), (16, .int .i64 (Exp.nowErr s now)), (17, .int .i64 (Exp.next s)), (18, .int .i64 (Exp.nextErr s)), (19, .int .i64 (Exp.check s)), (20, .int .i64 (Exp.nowErr s now)), (21, .int .i64 (Exp.nowErr s now)), (22, .int .i64 (Exp.nowErr s now)), (23, .int .i64 t), (24, .pointer (some ⟨B67, 0, none⟩)), (25, .pointer (some ⟨B68, 0, none⟩)), (26, .slice none 0 0), (27, .int .i64 0), (28, .bool false), (29, .int .i64 0)] [box B68 [.int .i64 0, .slice none 0 0] 24, box B67 [.int .i64 0, .slice none 0 0] 24, box B16 [.int .i64 (((Exp.sweep s now).1).life), .slice a10 (((Exp.sweep s now).1).entries).length c11] 24, ⟨S8, fun w => SlR tEntry S8 w a10 c11 (((Exp.sweep s now).1).entries) ∧ SlR tInt S8 w a12 c13 ((Exp.sweep s now).2)⟩, box B7 [.int .i64 ((Exp.put s key n now).life), .slice a4 ((Exp.put s key n now).entries).length c5] 24, own tEntry S2 a4 c5 ((Exp.put s key n now).entries), box B1 [.int .i64 s.life, .slice as_0 s.entries.length cs_0] 24, base w0]
        refine q_then ?_
        refine c_seq ?_
        refine c_seq ?_
        refine c_region ?_
        refine o_pure (p_assign (v := .int .i64 0) rfl) rfl rfl rfl ?_
        refine o_nil ?_
        refine q_then ?_
        refine c_block ?_
        refine c_loop (St := Int × Nat)
          (fun ⟨next, i⟩ => [(4, .pointer (some ⟨B1, 0, none⟩)), (9, .pointer (some ⟨B7, 0, none⟩)), (10, .int .i64 (Exp.putErr s key n now)), (11, .int .i64 ((Exp.get s key now).1)), (12, .bool ((Exp.get s key now).2)), (13, .int .i64 (Exp.getErr s key now)), (14, .pointer (some ⟨B16, 0, none⟩)), (15, .slice a12 ((Exp.sweep s now).2).length c13), (16, .int .i64 (Exp.nowErr s now)), (17, .int .i64 (Exp.next s)), (18, .int .i64 (Exp.nextErr s)), (19, .int .i64 (Exp.check s)), (20, .int .i64 (Exp.nowErr s now)), (21, .int .i64 (Exp.nowErr s now)), (22, .int .i64 (Exp.nowErr s now)), (23, .int .i64 t), (24, .pointer (some ⟨B67, 0, none⟩)), (25, .pointer (some ⟨B68, 0, none⟩)), (26, .slice none 0 0), (27, .int .i64 0), (28, .bool false), (29, .int .i64 next), (30, .int .i64 (i : Int))])
          (fun ⟨next, i⟩ => [box B68 [.int .i64 0, .slice none 0 0] 24, box B67 [.int .i64 0, .slice none 0 0] 24, box B16 [.int .i64 (((Exp.sweep s now).1).life), .slice a10 (((Exp.sweep s now).1).entries).length c11] 24, ⟨S8, fun w => SlR tEntry S8 w a10 c11 (((Exp.sweep s now).1).entries) ∧ SlR tInt S8 w a12 c13 ((Exp.sweep s now).2)⟩, box B7 [.int .i64 ((Exp.put s key n now).life), .slice a4 ((Exp.put s key n now).entries).length c5] 24, own tEntry S2 a4 c5 ((Exp.put s key n now).entries), box B1 [.int .i64 s.life, .slice as_0 s.entries.length cs_0] 24, base w0])
          (fun ⟨next, i⟩ => i ≤ s.entries.length ∧ next = Exp.leastTo s.entries i ∧ (i = 0 ∨ Exp.check s = 0))
          (fun ⟨next, i⟩ => s.entries.length - i)
          (0, 0) ?_ (Sub.cons rfl (Sub.cons rfl (Sub.cons rfl (Sub.cons rfl (Sub.cons rfl (Sub.cons rfl (Sub.cons rfl (Sub.cons rfl (Sub.cons rfl (Sub.cons rfl (Sub.cons rfl (Sub.cons rfl (Sub.cons rfl (Sub.cons rfl (Sub.cons rfl (Sub.cons rfl (Sub.cons rfl (Sub.cons rfl (Sub.cons rfl (Sub.cons rfl (Sub.cons rfl (Sub.cons rfl (Sub.cons rfl (Sub.nil _)))))))))))))))))))))))) (fun _ hw => hw) ?_
        · exact ⟨Nat.zero_le _, rfl, .inl rfl⟩
        rintro ⟨next, i⟩ hI K hK126
        show SC _ _ Try.prog 202 w0 _ _ [(4, .pointer (some ⟨B1, 0, none⟩)), (9, .pointer (some ⟨B7, 0, none⟩)), (10, .int .i64 (Exp.putErr s key n now)), (11, .int .i64 ((Exp.get s key now).1)), (12, .bool ((Exp.get s key now).2)), (13, .int .i64 (Exp.getErr s key now)), (14, .pointer (some ⟨B16, 0, none⟩)), (15, .slice a12 ((Exp.sweep s now).2).length c13), (16, .int .i64 (Exp.nowErr s now)), (17, .int .i64 (Exp.next s)), (18, .int .i64 (Exp.nextErr s)), (19, .int .i64 (Exp.check s)), (20, .int .i64 (Exp.nowErr s now)), (21, .int .i64 (Exp.nowErr s now)), (22, .int .i64 (Exp.nowErr s now)), (23, .int .i64 t), (24, .pointer (some ⟨B67, 0, none⟩)), (25, .pointer (some ⟨B68, 0, none⟩)), (26, .slice none 0 0), (27, .int .i64 0), (28, .bool false), (29, .int .i64 next), (30, .int .i64 (i : Int))] [box B68 [.int .i64 0, .slice none 0 0] 24, box B67 [.int .i64 0, .slice none 0 0] 24, box B16 [.int .i64 (((Exp.sweep s now).1).life), .slice a10 (((Exp.sweep s now).1).entries).length c11] 24, ⟨S8, fun w => SlR tEntry S8 w a10 c11 (((Exp.sweep s now).1).entries) ∧ SlR tInt S8 w a12 c13 ((Exp.sweep s now).2)⟩, box B7 [.int .i64 ((Exp.put s key n now).life), .slice a4 ((Exp.put s key n now).entries).length c5] 24, own tEntry S2 a4 c5 ((Exp.put s key n now).entries), box B1 [.int .i64 s.life, .slice as_0 s.entries.length cs_0] 24, base w0]
        refine c_seq ?_
        refine c_seq ?_
        refine c_region ?_
        refine o_pure (p_move (v := .int .i64 (i : Int)) rfl) rfl rfl rfl ?_
        refine o_pure (p_fieldAddr (B := B1) (j := 0) (j' := 1) rfl fo24_1 rfl) rfl rfl rfl ?_
        refine o_pure (p_load (i := 6) (v := .slice as_0 s.entries.length cs_0) rfl rfl sh22 rfl) rfl rfl rfl ?_
        refine o_pure (p_len_slice (len := s.entries.length) rfl rfl Try.underlying22) rfl rfl rfl ?_
        refine o_pure (p_lt (p := (i : Int)) (q := (s.entries.length : Int)) rfl rfl) rfl rfl rfl ?_
        refine o_pure (p_move (v := .bool (decide ((i : Int) < (s.entries.length : Int)))) rfl) rfl rfl rfl ?_
        refine o_and (p := 124) 3 (t == 0) ?_ ?_ ?_
        · intro hb127 hk
          simp only [decide_eq_true_eq] at hb127
          refine o_unguard 121 rfl rfl ?_
          refine o_pure (p_move (v := .int .i64 t) rfl) rfl rfl rfl ?_
          refine o_unguard 121 rfl rfl ?_
          refine o_pure (p_eq (p := t) (q := 0) rfl rfl) rfl rfl rfl ?_
          refine o_pure (p_pick_true (u := .bool (t == 0)) rfl rfl) rfl rfl rfl ?_
          exact o_sub (Sub.cons rfl (Sub.skip rfl (Sub.skip rfl (Sub.skip rfl (Sub.skip rfl (Sub.refl _)))))) hk
        · intro hb127 hk
          refine o_guard_no rfl 121 rfl rfl rfl rfl rfl ?_
          refine o_guard_no rfl 121 rfl rfl rfl rfl rfl ?_
          refine o_pure (p_pick_false (v := .bool false) rfl rfl) rfl rfl rfl ?_
          exact o_sub (Sub.cons rfl (Sub.skip rfl (Sub.skip rfl (Sub.skip rfl (Sub.skip rfl (Sub.refl _)))))) hk
        refine o_nil ?_
        refine q_then ?_
        refine c_cond (b := (decide ((i : Int) < (s.entries.length : Int)) && (t == 0))) rfl (fun hc128 => ?_) (fun hc128 => ?_)
        · simp only [Bool.and_eq_true, decide_eq_true_eq, beq_iff_eq] at hc128
          have hg := hc128
          have hcs : Exp.check s = 0 := by omega
          refine c_skip ?_
          refine q_then ?_
          refine c_seq ?_
          refine c_block ?_
          refine c_seq ?_
          refine c_region ?_
          refine o_pure (p_move (v := .int .i64 (i : Int)) rfl) rfl rfl rfl ?_
          refine o_pure (p_eq (p := (i : Int)) (q := 0) rfl rfl) rfl rfl rfl ?_
          refine o_pure (p_move (v := .bool ((i : Int) == 0)) rfl) rfl rfl rfl ?_
          refine o_or (p := 138) 9 (decide ((s.entries[i]).till < next)) ?_ ?_ ?_
          · intro hb129 hk
            simp only [beq_eq_false_iff_ne, ne_eq] at hb129
            refine o_unguard 129 rfl rfl ?_
            refine o_pure (p_fieldAddr (B := B1) (j := 0) (j' := 1) rfl fo24_1 rfl) rfl rfl rfl ?_
            refine o_unguard 129 rfl rfl ?_
            refine o_pure (p_load (i := 6) (v := .slice as_0 s.entries.length cs_0) rfl rfl sh22 rfl) rfl rfl rfl ?_
            refine o_unguard 129 rfl rfl ?_
            refine o_pure (p_move (v := .int .i64 (i : Int)) rfl) rfl rfl rfl ?_
            refine o_unguard 129 rfl rfl ?_
            refine o_pure (p_indexAddr (L := s.entries) (T := tEntry) (i := (i : Int)) rfl rfl (rd_base (i := 7) rfl hs_0) Try.underlying22 sz42 (by omega) (by omega)) rfl rfl rfl ?_
            refine o_unguard 129 rfl rfl ?_
            refine o_pure (p_fieldAddrE rfl fo42_2) rfl rfl rfl ?_
            refine o_unguard 129 rfl rfl ?_
            refine o_pure (p_loadF (i := i) (j := 2) (T := tEntry) (L := s.entries) (v := .int .i64 ((s.entries[i]).till)) rfl (rd_base (i := 7) rfl hs_0) (by first | assumption | omega) sh3 rfl) rfl rfl rfl ?_
            refine o_unguard 129 rfl rfl ?_
            refine o_pure (p_move (v := .int .i64 next) rfl) rfl rfl rfl ?_
            refine o_unguard 129 rfl rfl ?_
            refine o_pure (p_lt (p := (s.entries[i]).till) (q := next) rfl rfl) rfl rfl rfl ?_
            refine o_pure (p_pick_false (v := .bool (decide ((s.entries[i]).till < next))) rfl rfl) rfl rfl rfl ?_
            exact o_sub (Sub.cons rfl (Sub.skip rfl (Sub.skip rfl (Sub.skip rfl (Sub.skip rfl (Sub.skip rfl (Sub.skip rfl (Sub.skip rfl (Sub.skip rfl (Sub.skip rfl (Sub.skip rfl (Sub.refl _)))))))))))) hk
          · intro hb129 hk
            refine o_guard_no rfl 129 rfl rfl rfl rfl rfl ?_
            refine o_guard_no rfl 129 rfl rfl rfl rfl rfl ?_
            refine o_guard_no rfl 129 rfl rfl rfl rfl rfl ?_
            refine o_guard_no rfl 129 rfl rfl rfl rfl rfl ?_
            refine o_guard_no rfl 129 rfl rfl rfl rfl rfl ?_
            refine o_guard_no rfl 129 rfl rfl rfl rfl rfl ?_
            refine o_guard_no rfl 129 rfl rfl rfl rfl rfl ?_
            refine o_guard_no rfl 129 rfl rfl rfl rfl rfl ?_
            refine o_pure (p_pick_true (u := .bool true) rfl rfl) rfl rfl rfl ?_
            exact o_sub (Sub.cons rfl (Sub.skip rfl (Sub.skip rfl (Sub.skip rfl (Sub.skip rfl (Sub.skip rfl (Sub.skip rfl (Sub.skip rfl (Sub.skip rfl (Sub.skip rfl (Sub.skip rfl (Sub.refl _)))))))))))) hk
          refine o_nil ?_
          refine q_then ?_
          refine c_cond (b := (((i : Int) == 0) || decide ((s.entries[i]).till < next))) rfl (fun hc130 => ?_) (fun hc130 => ?_)
          · simp only [Bool.or_eq_true, beq_iff_eq, decide_eq_true_eq] at hc130
            refine c_region ?_
            refine o_pure (p_fieldAddr (B := B1) (j := 0) (j' := 1) rfl fo24_1 rfl) rfl rfl rfl ?_
            refine o_pure (p_load (i := 6) (v := .slice as_0 s.entries.length cs_0) rfl rfl sh22 rfl) rfl rfl rfl ?_
            refine o_pure (p_move (v := .int .i64 (i : Int)) rfl) rfl rfl rfl ?_
            refine o_pure (p_indexAddr (L := s.entries) (T := tEntry) (i := (i : Int)) rfl rfl (rd_base (i := 7) rfl hs_0) Try.underlying22 sz42 (by omega) (by omega)) rfl rfl rfl ?_
            refine o_pure (p_fieldAddrE rfl fo42_2) rfl rfl rfl ?_
            refine o_pure (p_loadF (i := i) (j := 2) (T := tEntry) (L := s.entries) (v := .int .i64 ((s.entries[i]).till)) rfl (rd_base (i := 7) rfl hs_0) (by first | assumption | omega) sh3 rfl) rfl rfl rfl ?_
            refine o_pure (p_assign (v := .int .i64 ((s.entries[i]).till)) rfl) rfl rfl rfl ?_
            refine o_nil ?_
            refine q_block_normal (q_then ?_)
            refine c_region ?_
            refine o_pure (p_move (v := .int .i64 (i : Int)) rfl) rfl rfl rfl ?_
            refine o_pure (p_addb (p := (i : Int)) (q := 1) rfl rfl (by omega)) rfl rfl rfl ?_
            refine o_pure (p_assign (v := .int .i64 ((i : Int) + 1)) rfl) rfl rfl rfl ?_
            refine o_nil ?_
            refine q_round hK126 ((s.entries[i]).till, i + 1) ?_ ?_ ?_ ?_
            · clear hK126
              first | exact ⟨by omega, (Exp.lt_next hI.2.1 (by omega)).1 (by omega), .inr hcs⟩ | exact ⟨by omega, (Exp.lt_next hI.2.1 (by omega)).2 (by omega), .inr hcs⟩
            · (try dsimp only); omega
            · exact Sub.cons rfl (Sub.cons rfl (Sub.cons rfl (Sub.cons rfl (Sub.cons rfl (Sub.cons rfl (Sub.cons rfl (Sub.cons rfl (Sub.cons rfl (Sub.cons rfl (Sub.cons rfl (Sub.cons rfl (Sub.cons rfl (Sub.cons rfl (Sub.cons rfl (Sub.cons rfl (Sub.cons rfl (Sub.cons rfl (Sub.cons rfl (Sub.cons rfl (Sub.cons rfl (Sub.cons rfl (Sub.cons rfl (Sub.nil _)))))))))))))))))))))))
            · exact fun _ hw => HeapIs.pick hw [0, 1, 2, 3, 4, 5, 6, 7] (by decide) rfl
          · simp only [Bool.or_eq_false_iff, beq_eq_false_iff_ne, ne_eq, decide_eq_false_iff_not, Int.not_lt] at hc130
            refine c_skip ?_
            refine q_block_normal (q_then ?_)
            refine c_region ?_
            refine o_pure (p_move (v := .int .i64 (i : Int)) rfl) rfl rfl rfl ?_
            refine o_pure (p_addb (p := (i : Int)) (q := 1) rfl rfl (by omega)) rfl rfl rfl ?_
            refine o_pure (p_assign (v := .int .i64 ((i : Int) + 1)) rfl) rfl rfl rfl ?_
            refine o_nil ?_
            refine q_round hK126 (next, i + 1) ?_ ?_ ?_ ?_
            · clear hK126
              first | exact ⟨by omega, (Exp.lt_next hI.2.1 (by omega)).1 (by omega), .inr hcs⟩ | exact ⟨by omega, (Exp.lt_next hI.2.1 (by omega)).2 (by omega), .inr hcs⟩
            · (try dsimp only); omega
            · exact Sub.cons rfl (Sub.cons rfl (Sub.cons rfl (Sub.cons rfl (Sub.cons rfl (Sub.cons rfl (Sub.cons rfl (Sub.cons rfl (Sub.cons rfl (Sub.cons rfl (Sub.cons rfl (Sub.cons rfl (Sub.cons rfl (Sub.cons rfl (Sub.cons rfl (Sub.cons rfl (Sub.cons rfl (Sub.cons rfl (Sub.cons rfl (Sub.cons rfl (Sub.cons rfl (Sub.cons rfl (Sub.cons rfl (Sub.nil _)))))))))))))))))))))))
            · exact fun _ hw => HeapIs.pick hw [0, 1, 2, 3, 4, 5, 6, 7] (by decide) rfl
        · simp only [Bool.and_eq_false_iff, decide_eq_false_iff_not, Int.not_lt, beq_eq_false_iff_ne, ne_eq] at hc128
          have hle9 := hc128
          have hnx : 0 < s.entries.length → Exp.check s = 0 → next = Exp.least s.entries := fun h1 h2 => Exp.lt_end hI.2.1 (by omega) h1
          have hn0 : i = 0 → next = 0 := fun h => by rw [hI.2.1, h]; rfl
          have hi0 := hI.1
          have hi1 := hI.2.2
          refine c_exit ?_
          refine q_then_exit (q_then_exit (q_block_exit (q_then ?_)))
          refine c_seq ?_
          refine c_region ?_
          refine o_call0 (v := .bool true) rfl (expireBegun_ok ) hf24 (fun _ _ => trivial) rfl ?_
          refine o_pure (p_move (v := .bool true) rfl) rfl rfl rfl ?_
          refine o_unguard 146 rfl rfl ?_
          refine o_pure (p_load_agg (i := 6) (vs := [.int .i64 s.life, .slice as_0 s.entries.length cs_0]) rfl rfl sh24 rfl rfl) rfl rfl rfl ?_
          refine o_unguard 146 rfl rfl ?_
          refine o_call0 (v := .int .i64 (Exp.check s)) rfl (echeck_ok s as_0 cs_0) hf25 (fun w hw => (rd_base (i := 7) rfl hs_0) w hw) rfl ?_
          refine o_unguard 146 rfl rfl ?_
          refine o_pure (p_move (v := .int .i64 (Exp.check s)) rfl) rfl rfl rfl ?_
          refine o_unguard 146 rfl rfl ?_
          refine o_pure (p_eq (p := (Exp.check s)) (q := (Exp.check s)) rfl rfl) rfl rfl rfl ?_
          refine o_pure (p_pick_true (u := .bool ((Exp.check s) == (Exp.check s))) rfl rfl) rfl rfl rfl ?_
          refine o_pure (p_move (v := .bool ((Exp.check s) == (Exp.check s))) rfl) rfl rfl rfl ?_
          refine o_and (p := 156) 4 (decide ((Exp.put s key n now) = (⟨0, []⟩ : DStore))) ?_ ?_ ?_
          · intro hb131 hk
            simp only [beq_iff_eq] at hb131
            refine o_unguard 152 rfl rfl ?_
            refine o_pure (p_load_agg (i := 4) (vs := [.int .i64 ((Exp.put s key n now).life), .slice a4 ((Exp.put s key n now).entries).length c5]) rfl rfl sh24 rfl rfl) rfl rfl rfl ?_
            refine o_unguard 152 rfl rfl ?_
            refine o_pure (p_load_agg (i := 1) (vs := [.int .i64 0, .slice none 0 0]) rfl rfl sh24 rfl rfl) rfl rfl rfl ?_
            refine o_unguard 152 rfl rfl ?_
            refine o_call0 (v := .bool (decide ((Exp.put s key n now) = (⟨0, []⟩ : DStore)))) rfl (sameLasting_ok (Exp.put s key n now) a4 c5 (⟨0, []⟩ : DStore) none 0) hf26 (fun w hw => ⟨(rd_own (i := 5) rfl) w hw, rd_nil w hw⟩) rfl ?_
            refine o_pure (p_pick_true (u := .bool (decide ((Exp.put s key n now) = (⟨0, []⟩ : DStore)))) rfl rfl) rfl rfl rfl ?_
            exact o_sub (Sub.cons rfl (Sub.skip rfl (Sub.skip rfl (Sub.skip rfl (Sub.skip rfl (Sub.skip rfl (Sub.refl _))))))) hk
          · intro hb131 hk
            refine o_guard_no rfl 152 rfl rfl rfl rfl rfl ?_
            refine o_guard_no rfl 152 rfl rfl rfl rfl rfl ?_
            refine o_guard_no rfl 152 rfl rfl rfl rfl rfl ?_
            refine o_pure (p_pick_false (v := .bool false) rfl rfl) rfl rfl rfl ?_
            exact o_sub (Sub.cons rfl (Sub.skip rfl (Sub.skip rfl (Sub.skip rfl (Sub.skip rfl (Sub.skip rfl (Sub.refl _))))))) hk
          refine o_pure (p_move (v := .bool (((Exp.check s) == (Exp.check s)) && (decide ((Exp.put s key n now) = (⟨0, []⟩ : DStore))))) rfl) rfl rfl rfl ?_
          refine o_and (p := 161) 4 ((Exp.putErr s key n now) == (Exp.nowErr s now)) ?_ ?_ ?_
          · intro hb132 hk
            simp only [Bool.and_eq_true, beq_iff_eq, decide_eq_true_eq] at hb132
            refine o_unguard 157 rfl rfl ?_
            refine o_pure (p_move (v := .int .i64 (Exp.putErr s key n now)) rfl) rfl rfl rfl ?_
            refine o_unguard 157 rfl rfl ?_
            refine o_pure (p_move (v := .int .i64 (Exp.nowErr s now)) rfl) rfl rfl rfl ?_
            refine o_unguard 157 rfl rfl ?_
            refine o_pure (p_eq (p := (Exp.putErr s key n now)) (q := (Exp.nowErr s now)) rfl rfl) rfl rfl rfl ?_
            refine o_pure (p_pick_true (u := .bool ((Exp.putErr s key n now) == (Exp.nowErr s now))) rfl rfl) rfl rfl rfl ?_
            exact o_sub (Sub.cons rfl (Sub.skip rfl (Sub.skip rfl (Sub.skip rfl (Sub.skip rfl (Sub.skip rfl (Sub.refl _))))))) hk
          · intro hb132 hk
            refine o_guard_no rfl 157 rfl rfl rfl rfl rfl ?_
            refine o_guard_no rfl 157 rfl rfl rfl rfl rfl ?_
            refine o_guard_no rfl 157 rfl rfl rfl rfl rfl ?_
            refine o_pure (p_pick_false (v := .bool false) rfl rfl) rfl rfl rfl ?_
            exact o_sub (Sub.cons rfl (Sub.skip rfl (Sub.skip rfl (Sub.skip rfl (Sub.skip rfl (Sub.skip rfl (Sub.refl _))))))) hk
          refine o_pure (p_move (v := .bool ((((Exp.check s) == (Exp.check s)) && (decide ((Exp.put s key n now) = (⟨0, []⟩ : DStore)))) && ((Exp.putErr s key n now) == (Exp.nowErr s now)))) rfl) rfl rfl rfl ?_
          refine o_and (p := 166) 4 (((Exp.get s key now).1) == 0) ?_ ?_ ?_
          · intro hb133 hk
            simp only [Bool.and_eq_true, beq_iff_eq, decide_eq_true_eq] at hb133
            refine o_unguard 162 rfl rfl ?_
            refine o_pure (p_move (v := .int .i64 ((Exp.get s key now).1)) rfl) rfl rfl rfl ?_
            refine o_unguard 162 rfl rfl ?_
            refine o_pure (p_move (v := .int .i64 0) rfl) rfl rfl rfl ?_
            refine o_unguard 162 rfl rfl ?_
            refine o_pure (p_eq (p := ((Exp.get s key now).1)) (q := 0) rfl rfl) rfl rfl rfl ?_
            refine o_pure (p_pick_true (u := .bool (((Exp.get s key now).1) == 0)) rfl rfl) rfl rfl rfl ?_
            exact o_sub (Sub.cons rfl (Sub.skip rfl (Sub.skip rfl (Sub.skip rfl (Sub.skip rfl (Sub.skip rfl (Sub.refl _))))))) hk
          · intro hb133 hk
            refine o_guard_no rfl 162 rfl rfl rfl rfl rfl ?_
            refine o_guard_no rfl 162 rfl rfl rfl rfl rfl ?_
            refine o_guard_no rfl 162 rfl rfl rfl rfl rfl ?_
            refine o_pure (p_pick_false (v := .bool false) rfl rfl) rfl rfl rfl ?_
            exact o_sub (Sub.cons rfl (Sub.skip rfl (Sub.skip rfl (Sub.skip rfl (Sub.skip rfl (Sub.skip rfl (Sub.refl _))))))) hk
          refine o_pure (p_move (v := .bool (((((Exp.check s) == (Exp.check s)) && (decide ((Exp.put s key n now) = (⟨0, []⟩ : DStore)))) && ((Exp.putErr s key n now) == (Exp.nowErr s now))) && (((Exp.get s key now).1) == 0))) rfl) rfl rfl rfl ?_
          refine o_and (p := 171) 4 (((Exp.get s key now).2) == false) ?_ ?_ ?_
          · intro hb134 hk
            simp only [Bool.and_eq_true, beq_iff_eq, decide_eq_true_eq] at hb134
            refine o_unguard 167 rfl rfl ?_
            refine o_pure (p_move (v := .bool ((Exp.get s key now).2)) rfl) rfl rfl rfl ?_
            refine o_unguard 167 rfl rfl ?_
            refine o_pure (p_move (v := .bool false) rfl) rfl rfl rfl ?_
            refine o_unguard 167 rfl rfl ?_
            refine o_pure (p_eqBool (b := ((Exp.get s key now).2)) (c := false) rfl rfl Try.underlying4) rfl rfl rfl ?_
            refine o_pure (p_pick_true (u := .bool (((Exp.get s key now).2) == false)) rfl rfl) rfl rfl rfl ?_
            exact o_sub (Sub.cons rfl (Sub.skip rfl (Sub.skip rfl (Sub.skip rfl (Sub.skip rfl (Sub.skip rfl (Sub.refl _))))))) hk
          · intro hb134 hk
            refine o_guard_no rfl 167 rfl rfl rfl rfl rfl ?_
            refine o_guard_no rfl 167 rfl rfl rfl rfl rfl ?_
            refine o_guard_no rfl 167 rfl rfl rfl rfl rfl ?_
            refine o_pure (p_pick_false (v := .bool false) rfl rfl) rfl rfl rfl ?_
            exact o_sub (Sub.cons rfl (Sub.skip rfl (Sub.skip rfl (Sub.skip rfl (Sub.skip rfl (Sub.skip rfl (Sub.refl _))))))) hk
          refine o_pure (p_move (v := .bool ((((((Exp.check s) == (Exp.check s)) && (decide ((Exp.put s key n now) = (⟨0, []⟩ : DStore)))) && ((Exp.putErr s key n now) == (Exp.nowErr s now))) && (((Exp.get s key now).1) == 0)) && (((Exp.get s key now).2) == false))) rfl) rfl rfl rfl ?_
          refine o_and (p := 176) 4 ((Exp.getErr s key now) == (Exp.nowErr s now)) ?_ ?_ ?_
          · intro hb135 hk
            simp only [Bool.and_eq_true, beq_iff_eq, decide_eq_true_eq] at hb135
            refine o_unguard 172 rfl rfl ?_
            refine o_pure (p_move (v := .int .i64 (Exp.getErr s key now)) rfl) rfl rfl rfl ?_
            refine o_unguard 172 rfl rfl ?_
            refine o_pure (p_move (v := .int .i64 (Exp.nowErr s now)) rfl) rfl rfl rfl ?_
            refine o_unguard 172 rfl rfl ?_
            refine o_pure (p_eq (p := (Exp.getErr s key now)) (q := (Exp.nowErr s now)) rfl rfl) rfl rfl rfl ?_
            refine o_pure (p_pick_true (u := .bool ((Exp.getErr s key now) == (Exp.nowErr s now))) rfl rfl) rfl rfl rfl ?_
            exact o_sub (Sub.cons rfl (Sub.skip rfl (Sub.skip rfl (Sub.skip rfl (Sub.skip rfl (Sub.skip rfl (Sub.refl _))))))) hk
          · intro hb135 hk
            refine o_guard_no rfl 172 rfl rfl rfl rfl rfl ?_
            refine o_guard_no rfl 172 rfl rfl rfl rfl rfl ?_
            refine o_guard_no rfl 172 rfl rfl rfl rfl rfl ?_
            refine o_pure (p_pick_false (v := .bool false) rfl rfl) rfl rfl rfl ?_
            exact o_sub (Sub.cons rfl (Sub.skip rfl (Sub.skip rfl (Sub.skip rfl (Sub.skip rfl (Sub.skip rfl (Sub.refl _))))))) hk
          refine o_pure (p_move (v := .bool (((((((Exp.check s) == (Exp.check s)) && (decide ((Exp.put s key n now) = (⟨0, []⟩ : DStore)))) && ((Exp.putErr s key n now) == (Exp.nowErr s now))) && (((Exp.get s key now).1) == 0)) && (((Exp.get s key now).2) == false)) && ((Exp.getErr s key now) == (Exp.nowErr s now)))) rfl) rfl rfl rfl ?_
          refine o_and (p := 181) 4 (decide (((Exp.sweep s now).1) = (⟨0, []⟩ : DStore))) ?_ ?_ ?_
          · intro hb136 hk
            simp only [Bool.and_eq_true, beq_iff_eq, decide_eq_true_eq] at hb136
            refine o_unguard 177 rfl rfl ?_
            refine o_pure (p_load_agg (i := 2) (vs := [.int .i64 (((Exp.sweep s now).1).life), .slice a10 (((Exp.sweep s now).1).entries).length c11]) rfl rfl sh24 rfl rfl) rfl rfl rfl ?_
            refine o_unguard 177 rfl rfl ?_
            refine o_pure (p_load_agg (i := 0) (vs := [.int .i64 0, .slice none 0 0]) rfl rfl sh24 rfl rfl) rfl rfl rfl ?_
            refine o_unguard 177 rfl rfl ?_
            refine o_call0 (v := .bool (decide (((Exp.sweep s now).1) = (⟨0, []⟩ : DStore)))) rfl (sameLasting_ok ((Exp.sweep s now).1) a10 c11 (⟨0, []⟩ : DStore) none 0) hf26 (fun w hw => ⟨(rd_ent (i := 3) rfl (fun w h => h.1)) w hw, rd_nil w hw⟩) rfl ?_
            refine o_pure (p_pick_true (u := .bool (decide (((Exp.sweep s now).1) = (⟨0, []⟩ : DStore)))) rfl rfl) rfl rfl rfl ?_
            exact o_sub (Sub.cons rfl (Sub.skip rfl (Sub.skip rfl (Sub.skip rfl (Sub.skip rfl (Sub.skip rfl (Sub.refl _))))))) hk
          · intro hb136 hk
            refine o_guard_no rfl 177 rfl rfl rfl rfl rfl ?_
            refine o_guard_no rfl 177 rfl rfl rfl rfl rfl ?_
            refine o_guard_no rfl 177 rfl rfl rfl rfl rfl ?_
            refine o_pure (p_pick_false (v := .bool false) rfl rfl) rfl rfl rfl ?_
            exact o_sub (Sub.cons rfl (Sub.skip rfl (Sub.skip rfl (Sub.skip rfl (Sub.skip rfl (Sub.skip rfl (Sub.refl _))))))) hk
          refine o_pure (p_move (v := .bool ((((((((Exp.check s) == (Exp.check s)) && (decide ((Exp.put s key n now) = (⟨0, []⟩ : DStore)))) && ((Exp.putErr s key n now) == (Exp.nowErr s now))) && (((Exp.get s key now).1) == 0)) && (((Exp.get s key now).2) == false)) && ((Exp.getErr s key now) == (Exp.nowErr s now))) && (decide (((Exp.sweep s now).1) = (⟨0, []⟩ : DStore))))) rfl) rfl rfl rfl ?_
          refine o_and (p := 186) 4 (Ref.sameInts ((Exp.sweep s now).2) []) ?_ ?_ ?_
          · intro hb137 hk
            simp only [Bool.and_eq_true, beq_iff_eq, decide_eq_true_eq] at hb137
            refine o_unguard 182 rfl rfl ?_
            refine o_pure (p_move (v := .slice a12 ((Exp.sweep s now).2).length c13) rfl) rfl rfl rfl ?_
            refine o_unguard 182 rfl rfl ?_
            refine o_pure (p_move (v := .slice none 0 0) rfl) rfl rfl rfl ?_
            refine o_unguard 182 rfl rfl ?_
            refine o_call0 (v := .bool (Ref.sameInts ((Exp.sweep s now).2) [])) rfl (sameInts_ok ((Exp.sweep s now).2) a12 c13 [] none 0) hf27 (fun w hw => ⟨(rd_ent (i := 3) rfl (fun w h => h.2)) w hw, rd_nil w hw⟩) rfl ?_
            refine o_pure (p_pick_true (u := .bool (Ref.sameInts ((Exp.sweep s now).2) [])) rfl rfl) rfl rfl rfl ?_
            exact o_sub (Sub.cons rfl (Sub.skip rfl (Sub.skip rfl (Sub.skip rfl (Sub.skip rfl (Sub.skip rfl (Sub.refl _))))))) hk
          · intro hb137 hk
            refine o_guard_no rfl 182 rfl rfl rfl rfl rfl ?_
            refine o_guard_no rfl 182 rfl rfl rfl rfl rfl ?_
            refine o_guard_no rfl 182 rfl rfl rfl rfl rfl ?_
            refine o_pure (p_pick_false (v := .bool false) rfl rfl) rfl rfl rfl ?_
            exact o_sub (Sub.cons rfl (Sub.skip rfl (Sub.skip rfl (Sub.skip rfl (Sub.skip rfl (Sub.skip rfl (Sub.refl _))))))) hk
          refine o_pure (p_move (v := .bool (((((((((Exp.check s) == (Exp.check s)) && (decide ((Exp.put s key n now) = (⟨0, []⟩ : DStore)))) && ((Exp.putErr s key n now) == (Exp.nowErr s now))) && (((Exp.get s key now).1) == 0)) && (((Exp.get s key now).2) == false)) && ((Exp.getErr s key now) == (Exp.nowErr s now))) && (decide (((Exp.sweep s now).1) = (⟨0, []⟩ : DStore)))) && (Ref.sameInts ((Exp.sweep s now).2) []))) rfl) rfl rfl rfl ?_
          refine o_and (p := 191) 4 ((Exp.nowErr s now) == (Exp.nowErr s now)) ?_ ?_ ?_
          · intro hb138 hk
            simp only [Bool.and_eq_true, beq_iff_eq, decide_eq_true_eq] at hb138
            refine o_unguard 187 rfl rfl ?_
            refine o_pure (p_move (v := .int .i64 (Exp.nowErr s now)) rfl) rfl rfl rfl ?_
            refine o_unguard 187 rfl rfl ?_
            refine o_pure (p_move (v := .int .i64 (Exp.nowErr s now)) rfl) rfl rfl rfl ?_
            refine o_unguard 187 rfl rfl ?_
            refine o_pure (p_eq (p := (Exp.nowErr s now)) (q := (Exp.nowErr s now)) rfl rfl) rfl rfl rfl ?_
            refine o_pure (p_pick_true (u := .bool ((Exp.nowErr s now) == (Exp.nowErr s now))) rfl rfl) rfl rfl rfl ?_
            exact o_sub (Sub.cons rfl (Sub.skip rfl (Sub.skip rfl (Sub.skip rfl (Sub.skip rfl (Sub.skip rfl (Sub.refl _))))))) hk
          · intro hb138 hk
            refine o_guard_no rfl 187 rfl rfl rfl rfl rfl ?_
            refine o_guard_no rfl 187 rfl rfl rfl rfl rfl ?_
            refine o_guard_no rfl 187 rfl rfl rfl rfl rfl ?_
            refine o_pure (p_pick_false (v := .bool false) rfl rfl) rfl rfl rfl ?_
            exact o_sub (Sub.cons rfl (Sub.skip rfl (Sub.skip rfl (Sub.skip rfl (Sub.skip rfl (Sub.skip rfl (Sub.refl _))))))) hk
          refine o_pure (p_move (v := .bool ((((((((((Exp.check s) == (Exp.check s)) && (decide ((Exp.put s key n now) = (⟨0, []⟩ : DStore)))) && ((Exp.putErr s key n now) == (Exp.nowErr s now))) && (((Exp.get s key now).1) == 0)) && (((Exp.get s key now).2) == false)) && ((Exp.getErr s key now) == (Exp.nowErr s now))) && (decide (((Exp.sweep s now).1) = (⟨0, []⟩ : DStore)))) && (Ref.sameInts ((Exp.sweep s now).2) [])) && ((Exp.nowErr s now) == (Exp.nowErr s now)))) rfl) rfl rfl rfl ?_
          refine o_and (p := 196) 4 ((Exp.next s) == next) ?_ ?_ ?_
          · intro hb139 hk
            simp only [Bool.and_eq_true, beq_iff_eq, decide_eq_true_eq] at hb139
            refine o_unguard 192 rfl rfl ?_
            refine o_pure (p_move (v := .int .i64 (Exp.next s)) rfl) rfl rfl rfl ?_
            refine o_unguard 192 rfl rfl ?_
            refine o_pure (p_move (v := .int .i64 next) rfl) rfl rfl rfl ?_
            refine o_unguard 192 rfl rfl ?_
            refine o_pure (p_eq (p := (Exp.next s)) (q := next) rfl rfl) rfl rfl rfl ?_
            refine o_pure (p_pick_true (u := .bool ((Exp.next s) == next)) rfl rfl) rfl rfl rfl ?_
            exact o_sub (Sub.cons rfl (Sub.skip rfl (Sub.skip rfl (Sub.skip rfl (Sub.skip rfl (Sub.skip rfl (Sub.refl _))))))) hk
          · intro hb139 hk
            refine o_guard_no rfl 192 rfl rfl rfl rfl rfl ?_
            refine o_guard_no rfl 192 rfl rfl rfl rfl rfl ?_
            refine o_guard_no rfl 192 rfl rfl rfl rfl rfl ?_
            refine o_pure (p_pick_false (v := .bool false) rfl rfl) rfl rfl rfl ?_
            exact o_sub (Sub.cons rfl (Sub.skip rfl (Sub.skip rfl (Sub.skip rfl (Sub.skip rfl (Sub.skip rfl (Sub.refl _))))))) hk
          refine o_pure (p_move (v := .bool (((((((((((Exp.check s) == (Exp.check s)) && (decide ((Exp.put s key n now) = (⟨0, []⟩ : DStore)))) && ((Exp.putErr s key n now) == (Exp.nowErr s now))) && (((Exp.get s key now).1) == 0)) && (((Exp.get s key now).2) == false)) && ((Exp.getErr s key now) == (Exp.nowErr s now))) && (decide (((Exp.sweep s now).1) = (⟨0, []⟩ : DStore)))) && (Ref.sameInts ((Exp.sweep s now).2) [])) && ((Exp.nowErr s now) == (Exp.nowErr s now))) && ((Exp.next s) == next))) rfl) rfl rfl rfl ?_
          refine o_and (p := 201) 4 ((Exp.nextErr s) == t) ?_ ?_ ?_
          · intro hb140 hk
            simp only [Bool.and_eq_true, beq_iff_eq, decide_eq_true_eq] at hb140
            refine o_unguard 197 rfl rfl ?_
            refine o_pure (p_move (v := .int .i64 (Exp.nextErr s)) rfl) rfl rfl rfl ?_
            refine o_unguard 197 rfl rfl ?_
            refine o_pure (p_move (v := .int .i64 t) rfl) rfl rfl rfl ?_
            refine o_unguard 197 rfl rfl ?_
            refine o_pure (p_eq (p := (Exp.nextErr s)) (q := t) rfl rfl) rfl rfl rfl ?_
            refine o_pure (p_pick_true (u := .bool ((Exp.nextErr s) == t)) rfl rfl) rfl rfl rfl ?_
            exact o_sub (Sub.cons rfl (Sub.skip rfl (Sub.skip rfl (Sub.skip rfl (Sub.skip rfl (Sub.skip rfl (Sub.refl _))))))) hk
          · intro hb140 hk
            refine o_guard_no rfl 197 rfl rfl rfl rfl rfl ?_
            refine o_guard_no rfl 197 rfl rfl rfl rfl rfl ?_
            refine o_guard_no rfl 197 rfl rfl rfl rfl rfl ?_
            refine o_pure (p_pick_false (v := .bool false) rfl rfl) rfl rfl rfl ?_
            exact o_sub (Sub.cons rfl (Sub.skip rfl (Sub.skip rfl (Sub.skip rfl (Sub.skip rfl (Sub.skip rfl (Sub.refl _))))))) hk
          refine o_pure (p_assign (v := .bool ((((((((((((Exp.check s) == (Exp.check s)) && (decide ((Exp.put s key n now) = (⟨0, []⟩ : DStore)))) && ((Exp.putErr s key n now) == (Exp.nowErr s now))) && (((Exp.get s key now).1) == 0)) && (((Exp.get s key now).2) == false)) && ((Exp.getErr s key now) == (Exp.nowErr s now))) && (decide (((Exp.sweep s now).1) = (⟨0, []⟩ : DStore)))) && (Ref.sameInts ((Exp.sweep s now).2) [])) && ((Exp.nowErr s now) == (Exp.nowErr s now))) && ((Exp.next s) == next)) && ((Exp.nextErr s) == t))) rfl) rfl rfl rfl ?_
          refine o_nil ?_
          refine q_then ?_
          refine c_ret ?_
          have hr0 : (((((((((((((Exp.check s) == (Exp.check s)) && (decide ((Exp.put s key n now) = (⟨0, []⟩ : DStore)))) && ((Exp.putErr s key n now) == (Exp.nowErr s now))) && (((Exp.get s key now).1) == 0)) && (((Exp.get s key now).2) == false)) && ((Exp.getErr s key now) == (Exp.nowErr s now))) && (decide (((Exp.sweep s now).1) = (⟨0, []⟩ : DStore)))) && (Ref.sameInts ((Exp.sweep s now).2) [])) && ((Exp.nowErr s now) == (Exp.nowErr s now))) && ((Exp.next s) == next)) && ((Exp.nextErr s) == t)) : Bool) = true := by
            rcases hJ with ⟨j0, j1, j2⟩ | ⟨j0, j1⟩ <;> rcases Exp.spec_a s key n now with ⟨a0, a1, a2, a3, a4⟩ | ⟨a0, a5, a1, a2, a3, a4⟩ | ⟨a0, a5, a6, a1, a2, a3, a4⟩ | ⟨a0, a5, a6, a1, a2, a3, a4⟩ <;> rcases Exp.spec_b s now with ⟨b0, b1⟩ | ⟨b0, b1⟩ <;> rcases Exp.spec_c s with ⟨c0, c1, c2⟩ | ⟨c0, c3, c1, c2⟩ | ⟨c0, c3, c1, c2⟩ <;> first | (exfalso; omega) | (rw [a1, a2, a3, a4, b1, c1, c2, hnx (by omega) (by omega), j0]; simp [Exp.zero, Ref.sameInts, a0, c0]; done) | (rw [a1, a2, a3, a4, b1, c1, c2, hn0 (by omega), j0]; simp [Exp.zero, Ref.sameInts, a0, c0]; done)
          refine q_end0 (v := .bool ((((((((((((Exp.check s) == (Exp.check s)) && (decide ((Exp.put s key n now) = (⟨0, []⟩ : DStore)))) && ((Exp.putErr s key n now) == (Exp.nowErr s now))) && (((Exp.get s key now).1) == 0)) && (((Exp.get s key now).2) == false)) && ((Exp.getErr s key now) == (Exp.nowErr s now))) && (decide (((Exp.sweep s now).1) = (⟨0, []⟩ : DStore)))) && (Ref.sameInts ((Exp.sweep s now).2) [])) && ((Exp.nowErr s now) == (Exp.nowErr s now))) && ((Exp.next s) == next)) && ((Exp.nextErr s) == t))) (rt1 rfl (r_tmp rfl)) (i := 7) rfl ?_
          exact (by have hcc := congrArg (fun (y0 : Bool) => (.bool y0 : Value)) hr0; exact hcc)
end Go.Proofs.Ytkndekkacimekaa
