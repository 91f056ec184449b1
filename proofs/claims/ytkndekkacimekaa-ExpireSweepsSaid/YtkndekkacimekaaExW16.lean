/- The walks, printed by a program from the translation and a specification. -/
import Derived.Test.YtkndekkacimekaaExF
import Derived.Test.YtkndekkacimekaaExLaw2
import Derived.Test.YtkndekkacimekaaExW13
namespace Go.Proofs.Ytkndekkacimekaa
open Go.Sx Go.RowKit
set_option maxHeartbeats 8000000 in
set_option maxRecDepth 100000 in
theorem expireSweeps_ok (s : DStore) (as_0 : Option Addr) (cs_0 : Nat) (key : Int) (now : Int) (later : Int) : Fn0 Try.prog 5 [.agg #[.int .i64 s.life, .slice as_0 s.entries.length cs_0], .int .i64 key, .int .i64 now, .int .i64 later] (fun w => Rd tEntry w as_0 cs_0 s.entries) (.bool true) := by
  refine fn0 (nt := 110) (F0 := [(0, .agg #[.int .i64 s.life, .slice as_0 s.entries.length cs_0]), (1, .int .i64 key), (2, .int .i64 now), (3, .int .i64 later)]) Try.func5 rfl Try.ntmps5 rfl rfl (fun w0 hpre => ?_)
  have hs_0 := hpre
  have hlhs_0 := hs_0.2.1
  refine c_seq ?_
  refine c_region ?_
  refine o_box (v := .agg #[.int .i64 s.life, .slice as_0 s.entries.length cs_0]) rfl rfl (fun B1 => ?_)
  refine o_pure (p_assign (v := .bool false) rfl) rfl rfl rfl ?_
  refine o_nil ?_
  refine q_then ?_
  refine c_seq ?_
  refine c_region ?_
  refine o_pure (p_load_agg (i := 0) (vs := [.int .i64 s.life, .slice as_0 s.entries.length cs_0]) rfl rfl sh24 rfl rfl) rfl rfl rfl ?_
  refine o_pure (p_move (v := .int .i64 now) rfl) rfl rfl rfl ?_
  refine o_callM rfl (esweep_ok s as_0 cs_0 now) hf17 (fun w hw => (rd_base (i := 1) rfl hs_0) w hw) rfl (fun _ _ _ _ ha hA => ⟨SlR.agree ha hA.1, SlR.agree ha hA.2⟩) ?_
  rintro ⟨a4, c5, a6, c7⟩ S2
  refine o_know (fun w hw => (hw.at (i := 0) rfl).here.1.2.1) (fun hlr8 => ?_)
  refine o_know (fun w hw => (hw.at (i := 0) rfl).here.2.2.1) (fun hlr9 => ?_)
  refine o_pure (p_move (v := .tuple #[.agg #[.int .i64 (((Exp.sweep s now).1).life), .slice a4 (((Exp.sweep s now).1).entries).length c5], .slice a6 ((Exp.sweep s now).2).length c7, .int .i64 (Exp.nowErr s now)]) rfl) rfl rfl rfl ?_
  refine o_pure (p_extract (vs := [.agg #[.int .i64 (((Exp.sweep s now).1).life), .slice a4 (((Exp.sweep s now).1).entries).length c5], .slice a6 ((Exp.sweep s now).2).length c7, .int .i64 (Exp.nowErr s now)]) (v := .agg #[.int .i64 (((Exp.sweep s now).1).life), .slice a4 (((Exp.sweep s now).1).entries).length c5]) rfl rfl) rfl rfl rfl ?_
  refine o_pure (p_extract (vs := [.agg #[.int .i64 (((Exp.sweep s now).1).life), .slice a4 (((Exp.sweep s now).1).entries).length c5], .slice a6 ((Exp.sweep s now).2).length c7, .int .i64 (Exp.nowErr s now)]) (v := .slice a6 ((Exp.sweep s now).2).length c7) rfl rfl) rfl rfl rfl ?_
  refine o_pure (p_extract (vs := [.agg #[.int .i64 (((Exp.sweep s now).1).life), .slice a4 (((Exp.sweep s now).1).entries).length c5], .slice a6 ((Exp.sweep s now).2).length c7, .int .i64 (Exp.nowErr s now)]) (v := .int .i64 (Exp.nowErr s now)) rfl rfl) rfl rfl rfl ?_
  refine o_alloc ze24 rfl (fun B10 => ?_)
  refine o_storeN (i := 0) (vs := [.int .i64 (((Exp.sweep s now).1).life), .slice a4 (((Exp.sweep s now).1).entries).length c5]) (cs' := [.int .i64 (((Exp.sweep s now).1).life), .slice a4 (((Exp.sweep s now).1).entries).length c5]) rfl rfl rfl sz24 rfl rfl rfl rfl ?_
  refine o_pure (p_assign (v := .slice a6 ((Exp.sweep s now).2).length c7) rfl) rfl rfl rfl ?_
  refine o_pure (p_assign (v := .int .i64 (Exp.nowErr s now)) rfl) rfl rfl rfl ?_
  refine o_nil ?_
  refine q_then ?_
  refine c_seq ?_
  refine c_seq ?_
  refine c_region ?_
  refine o_call0 (v := .bool true) rfl (expireBegun_ok ) hf24 (fun _ _ => trivial) rfl ?_
  refine o_pure (p_not (b := true) rfl) rfl rfl rfl ?_
  refine o_nil ?_
  refine q_then ?_
  refine c_false rfl ?_
  refine c_skip ?_
  refine q_then ?_
  refine c_seq ?_
  refine c_seq ?_
  refine c_region ?_
  refine o_pure (p_move (v := .int .i64 (Exp.nowErr s now)) rfl) rfl rfl rfl ?_
  refine o_pure (p_ne (p := (Exp.nowErr s now)) (q := 0) rfl rfl) rfl rfl rfl ?_
  refine o_pure (p_move (v := .bool ((Exp.nowErr s now) != 0)) rfl) rfl rfl rfl ?_
  refine o_or (p := 38) 4 (decide (later < now)) ?_ ?_ ?_
  · intro hb11 hk
    simp only [bne_eq_false_iff_eq] at hb11
    refine o_unguard 34 rfl rfl ?_
    refine o_pure (p_move (v := .int .i64 later) rfl) rfl rfl rfl ?_
    refine o_unguard 34 rfl rfl ?_
    refine o_pure (p_move (v := .int .i64 now) rfl) rfl rfl rfl ?_
    refine o_unguard 34 rfl rfl ?_
    refine o_pure (p_lt (p := later) (q := now) rfl rfl) rfl rfl rfl ?_
    refine o_pure (p_pick_false (v := .bool (decide (later < now))) rfl rfl) rfl rfl rfl ?_
    exact o_sub (Sub.cons rfl (Sub.skip rfl (Sub.skip rfl (Sub.skip rfl (Sub.skip rfl (Sub.skip rfl (Sub.refl _))))))) hk
  · intro hb11 hk
    refine o_guard_no rfl 34 rfl rfl rfl rfl rfl ?_
    refine o_guard_no rfl 34 rfl rfl rfl rfl rfl ?_
    refine o_guard_no rfl 34 rfl rfl rfl rfl rfl ?_
    refine o_pure (p_pick_true (u := .bool true) rfl rfl) rfl rfl rfl ?_
    exact o_sub (Sub.cons rfl (Sub.skip rfl (Sub.skip rfl (Sub.skip rfl (Sub.skip rfl (Sub.skip rfl (Sub.refl _))))))) hk
  refine o_nil ?_
  refine q_then ?_
  refine c_cond (b := (((Exp.nowErr s now) != 0) || decide (later < now))) rfl (fun hc12 => ?_) (fun hc12 => ?_)
  · simp only [Bool.or_eq_true, bne_iff_ne, ne_eq, decide_eq_true_eq] at hc12
    have hbad := hc12
    refine c_seq ?_
    refine c_region ?_
    refine o_pure (p_move (v := .int .i64 (Exp.nowErr s now)) rfl) rfl rfl rfl ?_
    refine o_pure (p_eq (p := (Exp.nowErr s now)) (q := 0) rfl rfl) rfl rfl rfl ?_
    refine o_pure (p_move (v := .bool ((Exp.nowErr s now) == 0)) rfl) rfl rfl rfl ?_
    refine o_or (p := 45) 4 ((((Exp.sweep s now).2).length : Int) == 0) ?_ ?_ ?_
    · intro hb13 hk
      simp only [beq_eq_false_iff_ne, ne_eq] at hb13
      refine o_unguard 41 rfl rfl ?_
      refine o_pure (p_move (v := .slice a6 ((Exp.sweep s now).2).length c7) rfl) rfl rfl rfl ?_
      refine o_unguard 41 rfl rfl ?_
      refine o_pure (p_len_slice (len := ((Exp.sweep s now).2).length) rfl rfl Try.underlying30) rfl rfl rfl ?_
      refine o_unguard 41 rfl rfl ?_
      refine o_pure (p_eq (p := (((Exp.sweep s now).2).length : Int)) (q := 0) rfl rfl) rfl rfl rfl ?_
      refine o_pure (p_pick_false (v := .bool ((((Exp.sweep s now).2).length : Int) == 0)) rfl rfl) rfl rfl rfl ?_
      exact o_sub (Sub.cons rfl (Sub.skip rfl (Sub.skip rfl (Sub.skip rfl (Sub.skip rfl (Sub.skip rfl (Sub.refl _))))))) hk
    · intro hb13 hk
      refine o_guard_no rfl 41 rfl rfl rfl rfl rfl ?_
      refine o_guard_no rfl 41 rfl rfl rfl rfl rfl ?_
      refine o_guard_no rfl 41 rfl rfl rfl rfl rfl ?_
      refine o_pure (p_pick_true (u := .bool true) rfl rfl) rfl rfl rfl ?_
      exact o_sub (Sub.cons rfl (Sub.skip rfl (Sub.skip rfl (Sub.skip rfl (Sub.skip rfl (Sub.skip rfl (Sub.refl _))))))) hk
    refine o_pure (p_assign (v := .bool (((Exp.nowErr s now) == 0) || ((((Exp.sweep s now).2).length : Int) == 0))) rfl) rfl rfl rfl ?_
    refine o_nil ?_
    refine q_then ?_
    refine c_ret ?_
    refine q_then_ret ?_
    have hr0 : ((((Exp.nowErr s now) == 0) || ((((Exp.sweep s now).2).length : Int) == 0)) : Bool) = true := by
      first | (obtain ⟨r1, r2, r3, r4, r5, r6⟩ := Exp.sweeps (key := key) hfine.1 hfine.2; rw [← r1, ← r2, r3, r4, r5]; by_cases h9 : Exp.nextErr (Exp.sweep s now).1 = 0 <;> simp_all) | (by_cases h9 : Exp.nowErr s now = 0 <;> simp [h9, Exp.sweep_bad])
    refine q_end0 (v := .bool (((Exp.nowErr s now) == 0) || ((((Exp.sweep s now).2).length : Int) == 0))) (rt1 rfl (r_tmp rfl)) (i := 3) rfl ?_
    exact (by have hcc := congrArg (fun (y0 : Bool) => (.bool y0 : Value)) hr0; exact hcc)
  · simp only [Bool.or_eq_false_iff, bne_eq_false_iff_eq, decide_eq_false_iff_not, Int.not_lt] at hc12
    have hfine := hc12
    refine c_skip ?_
    refine q_then ?_
    refine c_seq ?_
    refine c_region ?_
    refine o_pure (p_load_agg (i := 2) (vs := [.int .i64 s.life, .slice as_0 s.entries.length cs_0]) rfl rfl sh24 rfl rfl) rfl rfl rfl ?_
    refine o_pure (p_move (v := .int .i64 key) rfl) rfl rfl rfl ?_
    refine o_pure (p_move (v := .int .i64 later) rfl) rfl rfl rfl ?_
    refine o_call0 (v := .tuple #[.int .i64 ((Exp.get s key later).1), .bool ((Exp.get s key later).2), .int .i64 (Exp.getErr s key later)]) rfl (eget_ok s as_0 cs_0 key later) hf16 (fun w hw => (rd_base (i := 3) rfl hs_0) w hw) rfl ?_
    refine o_pure (p_move (v := .tuple #[.int .i64 ((Exp.get s key later).1), .bool ((Exp.get s key later).2), .int .i64 (Exp.getErr s key later)]) rfl) rfl rfl rfl ?_
    refine o_pure (p_extract (vs := [.int .i64 ((Exp.get s key later).1), .bool ((Exp.get s key later).2), .int .i64 (Exp.getErr s key later)]) (v := .int .i64 ((Exp.get s key later).1)) rfl rfl) rfl rfl rfl ?_
    refine o_pure (p_extract (vs := [.int .i64 ((Exp.get s key later).1), .bool ((Exp.get s key later).2), .int .i64 (Exp.getErr s key later)]) (v := .bool ((Exp.get s key later).2)) rfl rfl) rfl rfl rfl ?_
    refine o_pure (p_extract (vs := [.int .i64 ((Exp.get s key later).1), .bool ((Exp.get s key later).2), .int .i64 (Exp.getErr s key later)]) (v := .int .i64 (Exp.getErr s key later)) rfl rfl) rfl rfl rfl ?_
    refine o_pure (p_assign (v := .int .i64 ((Exp.get s key later).1)) rfl) rfl rfl rfl ?_
    refine o_pure (p_assign (v := .bool ((Exp.get s key later).2)) rfl) rfl rfl rfl ?_
    refine o_pure (p_assign (v := .int .i64 (Exp.getErr s key later)) rfl) rfl rfl rfl ?_
    refine o_nil ?_
    refine q_then ?_
    refine c_seq ?_
    refine c_region ?_
    refine o_pure (p_load_agg (i := 0) (vs := [.int .i64 (((Exp.sweep s now).1).life), .slice a4 (((Exp.sweep s now).1).entries).length c5]) rfl rfl sh24 rfl rfl) rfl rfl rfl ?_
    refine o_pure (p_move (v := .int .i64 key) rfl) rfl rfl rfl ?_
    refine o_pure (p_move (v := .int .i64 later) rfl) rfl rfl rfl ?_
    refine o_call0 (v := .tuple #[.int .i64 ((Exp.get ((Exp.sweep s now).1) key later).1), .bool ((Exp.get ((Exp.sweep s now).1) key later).2), .int .i64 (Exp.getErr ((Exp.sweep s now).1) key later)]) rfl (eget_ok ((Exp.sweep s now).1) a4 c5 key later) hf16 (fun w hw => (rd_ent (i := 1) rfl (fun w h => h.1)) w hw) rfl ?_
    refine o_pure (p_move (v := .tuple #[.int .i64 ((Exp.get ((Exp.sweep s now).1) key later).1), .bool ((Exp.get ((Exp.sweep s now).1) key later).2), .int .i64 (Exp.getErr ((Exp.sweep s now).1) key later)]) rfl) rfl rfl rfl ?_
    refine o_pure (p_extract (vs := [.int .i64 ((Exp.get ((Exp.sweep s now).1) key later).1), .bool ((Exp.get ((Exp.sweep s now).1) key later).2), .int .i64 (Exp.getErr ((Exp.sweep s now).1) key later)]) (v := .int .i64 ((Exp.get ((Exp.sweep s now).1) key later).1)) rfl rfl) rfl rfl rfl ?_
    refine o_pure (p_extract (vs := [.int .i64 ((Exp.get ((Exp.sweep s now).1) key later).1), .bool ((Exp.get ((Exp.sweep s now).1) key later).2), .int .i64 (Exp.getErr ((Exp.sweep s now).1) key later)]) (v := .bool ((Exp.get ((Exp.sweep s now).1) key later).2)) rfl rfl) rfl rfl rfl ?_
    refine o_pure (p_extract (vs := [.int .i64 ((Exp.get ((Exp.sweep s now).1) key later).1), .bool ((Exp.get ((Exp.sweep s now).1) key later).2), .int .i64 (Exp.getErr ((Exp.sweep s now).1) key later)]) (v := .int .i64 (Exp.getErr ((Exp.sweep s now).1) key later)) rfl rfl) rfl rfl rfl ?_
    refine o_pure (p_assign (v := .int .i64 ((Exp.get ((Exp.sweep s now).1) key later).1)) rfl) rfl rfl rfl ?_
    refine o_pure (p_assign (v := .bool ((Exp.get ((Exp.sweep s now).1) key later).2)) rfl) rfl rfl rfl ?_
    refine o_pure (p_assign (v := .int .i64 (Exp.getErr ((Exp.sweep s now).1) key later)) rfl) rfl rfl rfl ?_
    refine o_nil ?_
    refine q_then ?_
    refine c_seq ?_
    refine c_region ?_
    refine o_pure (p_load_agg (i := 0) (vs := [.int .i64 (((Exp.sweep s now).1).life), .slice a4 (((Exp.sweep s now).1).entries).length c5]) rfl rfl sh24 rfl rfl) rfl rfl rfl ?_
    refine o_pure (p_move (v := .int .i64 now) rfl) rfl rfl rfl ?_
    refine o_callM rfl (esweep_ok ((Exp.sweep s now).1) a4 c5 now) hf17 (fun w hw => (rd_ent (i := 1) rfl (fun w h => h.1)) w hw) rfl (fun _ _ _ _ ha hA => ⟨SlR.agree ha hA.1, SlR.agree ha hA.2⟩) ?_
    rintro ⟨a16, c17, a18, c19⟩ S14
    refine o_know (fun w hw => (hw.at (i := 0) rfl).here.1.2.1) (fun hlr20 => ?_)
    refine o_know (fun w hw => (hw.at (i := 0) rfl).here.2.2.1) (fun hlr21 => ?_)
    refine o_pure (p_move (v := .tuple #[.agg #[.int .i64 (((Exp.sweep ((Exp.sweep s now).1) now).1).life), .slice a16 (((Exp.sweep ((Exp.sweep s now).1) now).1).entries).length c17], .slice a18 ((Exp.sweep ((Exp.sweep s now).1) now).2).length c19, .int .i64 (Exp.nowErr ((Exp.sweep s now).1) now)]) rfl) rfl rfl rfl ?_
    refine o_pure (p_extract (vs := [.agg #[.int .i64 (((Exp.sweep ((Exp.sweep s now).1) now).1).life), .slice a16 (((Exp.sweep ((Exp.sweep s now).1) now).1).entries).length c17], .slice a18 ((Exp.sweep ((Exp.sweep s now).1) now).2).length c19, .int .i64 (Exp.nowErr ((Exp.sweep s now).1) now)]) (v := .agg #[.int .i64 (((Exp.sweep ((Exp.sweep s now).1) now).1).life), .slice a16 (((Exp.sweep ((Exp.sweep s now).1) now).1).entries).length c17]) rfl rfl) rfl rfl rfl ?_
    refine o_pure (p_extract (vs := [.agg #[.int .i64 (((Exp.sweep ((Exp.sweep s now).1) now).1).life), .slice a16 (((Exp.sweep ((Exp.sweep s now).1) now).1).entries).length c17], .slice a18 ((Exp.sweep ((Exp.sweep s now).1) now).2).length c19, .int .i64 (Exp.nowErr ((Exp.sweep s now).1) now)]) (v := .slice a18 ((Exp.sweep ((Exp.sweep s now).1) now).2).length c19) rfl rfl) rfl rfl rfl ?_
    refine o_pure (p_extract (vs := [.agg #[.int .i64 (((Exp.sweep ((Exp.sweep s now).1) now).1).life), .slice a16 (((Exp.sweep ((Exp.sweep s now).1) now).1).entries).length c17], .slice a18 ((Exp.sweep ((Exp.sweep s now).1) now).2).length c19, .int .i64 (Exp.nowErr ((Exp.sweep s now).1) now)]) (v := .int .i64 (Exp.nowErr ((Exp.sweep s now).1) now)) rfl rfl) rfl rfl rfl ?_
    refine o_alloc ze24 rfl (fun B22 => ?_)
    refine o_storeN (i := 0) (vs := [.int .i64 (((Exp.sweep ((Exp.sweep s now).1) now).1).life), .slice a16 (((Exp.sweep ((Exp.sweep s now).1) now).1).entries).length c17]) (cs' := [.int .i64 (((Exp.sweep ((Exp.sweep s now).1) now).1).life), .slice a16 (((Exp.sweep ((Exp.sweep s now).1) now).1).entries).length c17]) rfl rfl rfl sz24 rfl rfl rfl rfl ?_
    refine o_pure (p_assign (v := .slice a18 ((Exp.sweep ((Exp.sweep s now).1) now).2).length c19) rfl) rfl rfl rfl ?_
    refine o_pure (p_assign (v := .int .i64 (Exp.nowErr ((Exp.sweep s now).1) now)) rfl) rfl rfl rfl ?_
    refine o_nil ?_
    refine q_then ?_
    refine c_seq ?_
    refine c_region ?_
    refine o_pure (p_load_agg (i := 2) (vs := [.int .i64 (((Exp.sweep s now).1).life), .slice a4 (((Exp.sweep s now).1).entries).length c5]) rfl rfl sh24 rfl rfl) rfl rfl rfl ?_
    refine o_call0 (v := .tuple #[.int .i64 (Exp.next ((Exp.sweep s now).1)), .int .i64 (Exp.nextErr ((Exp.sweep s now).1))]) rfl (enext_ok ((Exp.sweep s now).1) a4 c5) hf18 (fun w hw => (rd_ent (i := 3) rfl (fun w h => h.1)) w hw) rfl ?_
    refine o_pure (p_move (v := .tuple #[.int .i64 (Exp.next ((Exp.sweep s now).1)), .int .i64 (Exp.nextErr ((Exp.sweep s now).1))]) rfl) rfl rfl rfl ?_
    refine o_pure (p_extract (vs := [.int .i64 (Exp.next ((Exp.sweep s now).1)), .int .i64 (Exp.nextErr ((Exp.sweep s now).1))]) (v := .int .i64 (Exp.next ((Exp.sweep s now).1))) rfl rfl) rfl rfl rfl ?_
    refine o_pure (p_extract (vs := [.int .i64 (Exp.next ((Exp.sweep s now).1)), .int .i64 (Exp.nextErr ((Exp.sweep s now).1))]) (v := .int .i64 (Exp.nextErr ((Exp.sweep s now).1))) rfl rfl) rfl rfl rfl ?_
    refine o_pure (p_assign (v := .int .i64 (Exp.next ((Exp.sweep s now).1))) rfl) rfl rfl rfl ?_
    refine o_pure (p_assign (v := .int .i64 (Exp.nextErr ((Exp.sweep s now).1))) rfl) rfl rfl rfl ?_
    refine o_nil ?_
    refine q_then ?_
    refine c_seq ?_
    refine c_region ?_
    refine o_pure (p_move (v := .int .i64 (Exp.getErr s key later)) rfl) rfl rfl rfl ?_
    refine o_pure (p_move (v := .int .i64 (Exp.getErr ((Exp.sweep s now).1) key later)) rfl) rfl rfl rfl ?_
    refine o_pure (p_eq (p := (Exp.getErr s key later)) (q := (Exp.getErr ((Exp.sweep s now).1) key later)) rfl rfl) rfl rfl rfl ?_
    refine o_pure (p_move (v := .bool ((Exp.getErr s key later) == (Exp.getErr ((Exp.sweep s now).1) key later))) rfl) rfl rfl rfl ?_
    refine o_and (p := 81) 4 (((Exp.get s key later).1) == ((Exp.get ((Exp.sweep s now).1) key later).1)) ?_ ?_ ?_
    · intro hb23 hk
      simp only [beq_iff_eq] at hb23
      refine o_unguard 77 rfl rfl ?_
      refine o_pure (p_move (v := .int .i64 ((Exp.get s key later).1)) rfl) rfl rfl rfl ?_
      refine o_unguard 77 rfl rfl ?_
      refine o_pure (p_move (v := .int .i64 ((Exp.get ((Exp.sweep s now).1) key later).1)) rfl) rfl rfl rfl ?_
      refine o_unguard 77 rfl rfl ?_
      refine o_pure (p_eq (p := ((Exp.get s key later).1)) (q := ((Exp.get ((Exp.sweep s now).1) key later).1)) rfl rfl) rfl rfl rfl ?_
      refine o_pure (p_pick_true (u := .bool (((Exp.get s key later).1) == ((Exp.get ((Exp.sweep s now).1) key later).1))) rfl rfl) rfl rfl rfl ?_
      exact o_sub (Sub.cons rfl (Sub.skip rfl (Sub.skip rfl (Sub.skip rfl (Sub.skip rfl (Sub.skip rfl (Sub.refl _))))))) hk
    · intro hb23 hk
      refine o_guard_no rfl 77 rfl rfl rfl rfl rfl ?_
      refine o_guard_no rfl 77 rfl rfl rfl rfl rfl ?_
      refine o_guard_no rfl 77 rfl rfl rfl rfl rfl ?_
      refine o_pure (p_pick_false (v := .bool false) rfl rfl) rfl rfl rfl ?_
      exact o_sub (Sub.cons rfl (Sub.skip rfl (Sub.skip rfl (Sub.skip rfl (Sub.skip rfl (Sub.skip rfl (Sub.refl _))))))) hk
    refine o_pure (p_move (v := .bool (((Exp.getErr s key later) == (Exp.getErr ((Exp.sweep s now).1) key later)) && (((Exp.get s key later).1) == ((Exp.get ((Exp.sweep s now).1) key later).1)))) rfl) rfl rfl rfl ?_
    refine o_and (p := 86) 4 (((Exp.get s key later).2) == ((Exp.get ((Exp.sweep s now).1) key later).2)) ?_ ?_ ?_
    · intro hb24 hk
      simp only [Bool.and_eq_true, beq_iff_eq] at hb24
      refine o_unguard 82 rfl rfl ?_
      refine o_pure (p_move (v := .bool ((Exp.get s key later).2)) rfl) rfl rfl rfl ?_
      refine o_unguard 82 rfl rfl ?_
      refine o_pure (p_move (v := .bool ((Exp.get ((Exp.sweep s now).1) key later).2)) rfl) rfl rfl rfl ?_
      refine o_unguard 82 rfl rfl ?_
      refine o_pure (p_eqBool (b := ((Exp.get s key later).2)) (c := ((Exp.get ((Exp.sweep s now).1) key later).2)) rfl rfl Try.underlying4) rfl rfl rfl ?_
      refine o_pure (p_pick_true (u := .bool (((Exp.get s key later).2) == ((Exp.get ((Exp.sweep s now).1) key later).2))) rfl rfl) rfl rfl rfl ?_
      exact o_sub (Sub.cons rfl (Sub.skip rfl (Sub.skip rfl (Sub.skip rfl (Sub.skip rfl (Sub.skip rfl (Sub.refl _))))))) hk
    · intro hb24 hk
      refine o_guard_no rfl 82 rfl rfl rfl rfl rfl ?_
      refine o_guard_no rfl 82 rfl rfl rfl rfl rfl ?_
      refine o_guard_no rfl 82 rfl rfl rfl rfl rfl ?_
      refine o_pure (p_pick_false (v := .bool false) rfl rfl) rfl rfl rfl ?_
      exact o_sub (Sub.cons rfl (Sub.skip rfl (Sub.skip rfl (Sub.skip rfl (Sub.skip rfl (Sub.skip rfl (Sub.refl _))))))) hk
    refine o_pure (p_move (v := .bool ((((Exp.getErr s key later) == (Exp.getErr ((Exp.sweep s now).1) key later)) && (((Exp.get s key later).1) == ((Exp.get ((Exp.sweep s now).1) key later).1))) && (((Exp.get s key later).2) == ((Exp.get ((Exp.sweep s now).1) key later).2)))) rfl) rfl rfl rfl ?_
    refine o_and (p := 90) 3 ((Exp.nowErr ((Exp.sweep s now).1) now) == 0) ?_ ?_ ?_
    · intro hb25 hk
      simp only [Bool.and_eq_true, beq_iff_eq] at hb25
      refine o_unguard 87 rfl rfl ?_
      refine o_pure (p_move (v := .int .i64 (Exp.nowErr ((Exp.sweep s now).1) now)) rfl) rfl rfl rfl ?_
      refine o_unguard 87 rfl rfl ?_
      refine o_pure (p_eq (p := (Exp.nowErr ((Exp.sweep s now).1) now)) (q := 0) rfl rfl) rfl rfl rfl ?_
      refine o_pure (p_pick_true (u := .bool ((Exp.nowErr ((Exp.sweep s now).1) now) == 0)) rfl rfl) rfl rfl rfl ?_
      exact o_sub (Sub.cons rfl (Sub.skip rfl (Sub.skip rfl (Sub.skip rfl (Sub.skip rfl (Sub.refl _)))))) hk
    · intro hb25 hk
      refine o_guard_no rfl 87 rfl rfl rfl rfl rfl ?_
      refine o_guard_no rfl 87 rfl rfl rfl rfl rfl ?_
      refine o_pure (p_pick_false (v := .bool false) rfl rfl) rfl rfl rfl ?_
      exact o_sub (Sub.cons rfl (Sub.skip rfl (Sub.skip rfl (Sub.skip rfl (Sub.skip rfl (Sub.refl _)))))) hk
    refine o_pure (p_move (v := .bool (((((Exp.getErr s key later) == (Exp.getErr ((Exp.sweep s now).1) key later)) && (((Exp.get s key later).1) == ((Exp.get ((Exp.sweep s now).1) key later).1))) && (((Exp.get s key later).2) == ((Exp.get ((Exp.sweep s now).1) key later).2))) && ((Exp.nowErr ((Exp.sweep s now).1) now) == 0))) rfl) rfl rfl rfl ?_
    refine o_and (p := 95) 4 ((((Exp.sweep ((Exp.sweep s now).1) now).2).length : Int) == 0) ?_ ?_ ?_
    · intro hb26 hk
      simp only [Bool.and_eq_true, beq_iff_eq] at hb26
      refine o_unguard 91 rfl rfl ?_
      refine o_pure (p_move (v := .slice a18 ((Exp.sweep ((Exp.sweep s now).1) now).2).length c19) rfl) rfl rfl rfl ?_
      refine o_unguard 91 rfl rfl ?_
      refine o_pure (p_len_slice (len := ((Exp.sweep ((Exp.sweep s now).1) now).2).length) rfl rfl Try.underlying30) rfl rfl rfl ?_
      refine o_unguard 91 rfl rfl ?_
      refine o_pure (p_eq (p := (((Exp.sweep ((Exp.sweep s now).1) now).2).length : Int)) (q := 0) rfl rfl) rfl rfl rfl ?_
      refine o_pure (p_pick_true (u := .bool ((((Exp.sweep ((Exp.sweep s now).1) now).2).length : Int) == 0)) rfl rfl) rfl rfl rfl ?_
      exact o_sub (Sub.cons rfl (Sub.skip rfl (Sub.skip rfl (Sub.skip rfl (Sub.skip rfl (Sub.skip rfl (Sub.refl _))))))) hk
    · intro hb26 hk
      refine o_guard_no rfl 91 rfl rfl rfl rfl rfl ?_
      refine o_guard_no rfl 91 rfl rfl rfl rfl rfl ?_
      refine o_guard_no rfl 91 rfl rfl rfl rfl rfl ?_
      refine o_pure (p_pick_false (v := .bool false) rfl rfl) rfl rfl rfl ?_
      exact o_sub (Sub.cons rfl (Sub.skip rfl (Sub.skip rfl (Sub.skip rfl (Sub.skip rfl (Sub.skip rfl (Sub.refl _))))))) hk
    refine o_pure (p_move (v := .bool ((((((Exp.getErr s key later) == (Exp.getErr ((Exp.sweep s now).1) key later)) && (((Exp.get s key later).1) == ((Exp.get ((Exp.sweep s now).1) key later).1))) && (((Exp.get s key later).2) == ((Exp.get ((Exp.sweep s now).1) key later).2))) && ((Exp.nowErr ((Exp.sweep s now).1) now) == 0)) && ((((Exp.sweep ((Exp.sweep s now).1) now).2).length : Int) == 0))) rfl) rfl rfl rfl ?_
    refine o_and (p := 100) 4 (decide (((Exp.sweep s now).1) = ((Exp.sweep ((Exp.sweep s now).1) now).1))) ?_ ?_ ?_
    · intro hb27 hk
      simp only [Bool.and_eq_true, beq_iff_eq] at hb27
      refine o_unguard 96 rfl rfl ?_
      refine o_pure (p_load_agg (i := 2) (vs := [.int .i64 (((Exp.sweep s now).1).life), .slice a4 (((Exp.sweep s now).1).entries).length c5]) rfl rfl sh24 rfl rfl) rfl rfl rfl ?_
      refine o_unguard 96 rfl rfl ?_
      refine o_pure (p_load_agg (i := 0) (vs := [.int .i64 (((Exp.sweep ((Exp.sweep s now).1) now).1).life), .slice a16 (((Exp.sweep ((Exp.sweep s now).1) now).1).entries).length c17]) rfl rfl sh24 rfl rfl) rfl rfl rfl ?_
      refine o_unguard 96 rfl rfl ?_
      refine o_call0 (v := .bool (decide (((Exp.sweep s now).1) = ((Exp.sweep ((Exp.sweep s now).1) now).1)))) rfl (sameLasting_ok ((Exp.sweep s now).1) a4 c5 ((Exp.sweep ((Exp.sweep s now).1) now).1) a16 c17) hf26 (fun w hw => ⟨(rd_ent (i := 3) rfl (fun w h => h.1)) w hw, (rd_ent (i := 1) rfl (fun w h => h.1)) w hw⟩) rfl ?_
      refine o_pure (p_pick_true (u := .bool (decide (((Exp.sweep s now).1) = ((Exp.sweep ((Exp.sweep s now).1) now).1)))) rfl rfl) rfl rfl rfl ?_
      exact o_sub (Sub.cons rfl (Sub.skip rfl (Sub.skip rfl (Sub.skip rfl (Sub.skip rfl (Sub.skip rfl (Sub.refl _))))))) hk
    · intro hb27 hk
      refine o_guard_no rfl 96 rfl rfl rfl rfl rfl ?_
      refine o_guard_no rfl 96 rfl rfl rfl rfl rfl ?_
      refine o_guard_no rfl 96 rfl rfl rfl rfl rfl ?_
      refine o_pure (p_pick_false (v := .bool false) rfl rfl) rfl rfl rfl ?_
      exact o_sub (Sub.cons rfl (Sub.skip rfl (Sub.skip rfl (Sub.skip rfl (Sub.skip rfl (Sub.skip rfl (Sub.refl _))))))) hk
    refine o_pure (p_move (v := .bool (((((((Exp.getErr s key later) == (Exp.getErr ((Exp.sweep s now).1) key later)) && (((Exp.get s key later).1) == ((Exp.get ((Exp.sweep s now).1) key later).1))) && (((Exp.get s key later).2) == ((Exp.get ((Exp.sweep s now).1) key later).2))) && ((Exp.nowErr ((Exp.sweep s now).1) now) == 0)) && ((((Exp.sweep ((Exp.sweep s now).1) now).2).length : Int) == 0)) && (decide (((Exp.sweep s now).1) = ((Exp.sweep ((Exp.sweep s now).1) now).1))))) rfl) rfl rfl rfl ?_
    refine o_and (p := 109) 8 (((Exp.nextErr ((Exp.sweep s now).1)) != 0) || decide (now < (Exp.next ((Exp.sweep s now).1)))) ?_ ?_ ?_
    · intro hb28 hk
      simp only [Bool.and_eq_true, beq_iff_eq, decide_eq_true_eq] at hb28
      refine o_unguard 101 rfl rfl ?_
      refine o_pure (p_move (v := .int .i64 (Exp.nextErr ((Exp.sweep s now).1))) rfl) rfl rfl rfl ?_
      refine o_unguard 101 rfl rfl ?_
      refine o_pure (p_ne (p := (Exp.nextErr ((Exp.sweep s now).1))) (q := 0) rfl rfl) rfl rfl rfl ?_
      refine o_unguard 101 rfl rfl ?_
      refine o_pure (p_move (v := .bool ((Exp.nextErr ((Exp.sweep s now).1)) != 0)) rfl) rfl rfl rfl ?_
      refine o_or (p := 108) 4 (decide (now < (Exp.next ((Exp.sweep s now).1)))) ?_ ?_ ?_
      · intro hb29 hk
        simp only [bne_eq_false_iff_eq] at hb29
        refine o_unguard 104 rfl rfl ?_
        refine o_pure (p_move (v := .int .i64 (Exp.next ((Exp.sweep s now).1))) rfl) rfl rfl rfl ?_
        refine o_unguard 104 rfl rfl ?_
        refine o_pure (p_move (v := .int .i64 now) rfl) rfl rfl rfl ?_
        refine o_unguard 104 rfl rfl ?_
        refine o_pure (p_gt (p := (Exp.next ((Exp.sweep s now).1))) (q := now) rfl rfl) rfl rfl rfl ?_
        refine o_unguard 101 rfl rfl ?_
        refine o_pure (p_pick_false (v := .bool (decide (now < (Exp.next ((Exp.sweep s now).1))))) rfl rfl) rfl rfl rfl ?_
        exact o_sub (Sub.cons rfl (Sub.skip rfl (Sub.skip rfl (Sub.skip rfl (Sub.skip rfl (Sub.skip rfl (Sub.refl _))))))) hk
      · intro hb29 hk
        refine o_guard_no rfl 104 rfl rfl rfl rfl rfl ?_
        refine o_guard_no rfl 104 rfl rfl rfl rfl rfl ?_
        refine o_guard_no rfl 104 rfl rfl rfl rfl rfl ?_
        refine o_unguard 101 rfl rfl ?_
        refine o_pure (p_pick_true (u := .bool true) rfl rfl) rfl rfl rfl ?_
        exact o_sub (Sub.cons rfl (Sub.skip rfl (Sub.skip rfl (Sub.skip rfl (Sub.skip rfl (Sub.skip rfl (Sub.refl _))))))) hk
      refine o_pure (p_pick_true (u := .bool (((Exp.nextErr ((Exp.sweep s now).1)) != 0) || decide (now < (Exp.next ((Exp.sweep s now).1))))) rfl rfl) rfl rfl rfl ?_
      exact o_sub (Sub.cons rfl (Sub.skip rfl (Sub.skip rfl (Sub.skip rfl (Sub.skip rfl (Sub.skip rfl (Sub.refl _))))))) hk
    · intro hb28 hk
      refine o_guard_no rfl 101 rfl rfl rfl rfl rfl ?_
      refine o_guard_no rfl 101 rfl rfl rfl rfl rfl ?_
      refine o_guard_no rfl 101 rfl rfl rfl rfl rfl ?_
      refine o_guard_no rfl 104 rfl rfl rfl rfl rfl ?_
      refine o_guard_no rfl 104 rfl rfl rfl rfl rfl ?_
      refine o_guard_no rfl 104 rfl rfl rfl rfl rfl ?_
      refine o_guard_no rfl 101 rfl rfl rfl rfl rfl ?_
      refine o_pure (p_pick_false (v := .bool false) rfl rfl) rfl rfl rfl ?_
      exact o_sub (Sub.cons rfl (Sub.skip rfl (Sub.skip rfl (Sub.skip rfl (Sub.skip rfl (Sub.skip rfl (Sub.skip rfl (Sub.skip rfl (Sub.skip rfl (Sub.skip rfl (Sub.refl _))))))))))) hk
    refine o_pure (p_assign (v := .bool ((((((((Exp.getErr s key later) == (Exp.getErr ((Exp.sweep s now).1) key later)) && (((Exp.get s key later).1) == ((Exp.get ((Exp.sweep s now).1) key later).1))) && (((Exp.get s key later).2) == ((Exp.get ((Exp.sweep s now).1) key later).2))) && ((Exp.nowErr ((Exp.sweep s now).1) now) == 0)) && ((((Exp.sweep ((Exp.sweep s now).1) now).2).length : Int) == 0)) && (decide (((Exp.sweep s now).1) = ((Exp.sweep ((Exp.sweep s now).1) now).1)))) && (((Exp.nextErr ((Exp.sweep s now).1)) != 0) || decide (now < (Exp.next ((Exp.sweep s now).1)))))) rfl) rfl rfl rfl ?_
    refine o_nil ?_
    refine q_then ?_
    refine c_ret ?_
    have hr0 : (((((((((Exp.getErr s key later) == (Exp.getErr ((Exp.sweep s now).1) key later)) && (((Exp.get s key later).1) == ((Exp.get ((Exp.sweep s now).1) key later).1))) && (((Exp.get s key later).2) == ((Exp.get ((Exp.sweep s now).1) key later).2))) && ((Exp.nowErr ((Exp.sweep s now).1) now) == 0)) && ((((Exp.sweep ((Exp.sweep s now).1) now).2).length : Int) == 0)) && (decide (((Exp.sweep s now).1) = ((Exp.sweep ((Exp.sweep s now).1) now).1)))) && (((Exp.nextErr ((Exp.sweep s now).1)) != 0) || decide (now < (Exp.next ((Exp.sweep s now).1))))) : Bool) = true := by
      first | (obtain ⟨r1, r2, r3, r4, r5, r6⟩ := Exp.sweeps (key := key) hfine.1 hfine.2; rw [← r1, ← r2, r3, r4, r5]; by_cases h9 : Exp.nextErr (Exp.sweep s now).1 = 0 <;> simp_all) | (by_cases h9 : Exp.nowErr s now = 0 <;> simp [h9, Exp.sweep_bad])
    refine q_end0 (v := .bool ((((((((Exp.getErr s key later) == (Exp.getErr ((Exp.sweep s now).1) key later)) && (((Exp.get s key later).1) == ((Exp.get ((Exp.sweep s now).1) key later).1))) && (((Exp.get s key later).2) == ((Exp.get ((Exp.sweep s now).1) key later).2))) && ((Exp.nowErr ((Exp.sweep s now).1) now) == 0)) && ((((Exp.sweep ((Exp.sweep s now).1) now).2).length : Int) == 0)) && (decide (((Exp.sweep s now).1) = ((Exp.sweep ((Exp.sweep s now).1) now).1)))) && (((Exp.nextErr ((Exp.sweep s now).1)) != 0) || decide (now < (Exp.next ((Exp.sweep s now).1)))))) (rt1 rfl (r_tmp rfl)) (i := 5) rfl ?_
    exact (by have hcc := congrArg (fun (y0 : Bool) => (.bool y0 : Value)) hr0; exact hcc)
end Go.Proofs.Ytkndekkacimekaa
