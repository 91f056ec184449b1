/- The walks, printed by a program from the translation and a specification. -/
import Derived.Test.YtkndekkacimekaaExF
import Derived.Test.YtkndekkacimekaaExLaw2
import Derived.Test.YtkndekkacimekaaExW13
namespace Go.Proofs.Ytkndekkacimekaa
open Go.Sx Go.RowKit
set_option maxHeartbeats 8000000 in
set_option maxRecDepth 100000 in
theorem expireOthers_ok (s : DStore) (as_0 : Option Addr) (cs_0 : Nat) (key : Int) (n : Int) (now : Int) (other : Int) (later : Int) : Fn0 Try.prog 6 [.agg #[.int .i64 s.life, .slice as_0 s.entries.length cs_0], .int .i64 key, .int .i64 n, .int .i64 now, .int .i64 other, .int .i64 later] (fun w => Rd tEntry w as_0 cs_0 s.entries) (.bool true) := by
  refine fn0 (nt := 72) (F0 := [(0, .agg #[.int .i64 s.life, .slice as_0 s.entries.length cs_0]), (1, .int .i64 key), (2, .int .i64 n), (3, .int .i64 now), (4, .int .i64 other), (5, .int .i64 later)]) Try.func6 rfl Try.ntmps6 rfl rfl (fun w0 hpre => ?_)
  have hs_0 := hpre
  have hlhs_0 := hs_0.2.1
  refine c_seq ?_
  refine c_region ?_
  refine o_box (v := .agg #[.int .i64 s.life, .slice as_0 s.entries.length cs_0]) rfl rfl (fun B1 => ?_)
  refine o_pure (p_assign (v := .bool false) rfl) rfl rfl rfl ?_
  refine o_nil ?_
  refine q_then ?_
  refine c_seq ?_
  refine c_region ?_
  refine o_pure (p_load_agg (i := 0) (vs := [.int .i64 s.life, .slice as_0 s.entries.length cs_0]) rfl rfl sh24 rfl rfl) rfl rfl rfl ?_
  refine o_pure (p_move (v := .int .i64 key) rfl) rfl rfl rfl ?_
  refine o_pure (p_move (v := .int .i64 n) rfl) rfl rfl rfl ?_
  refine o_pure (p_move (v := .int .i64 now) rfl) rfl rfl rfl ?_
  refine o_callM rfl (eput_ok s as_0 cs_0 key n now) hf15 (fun w hw => (rd_base (i := 1) rfl hs_0) w hw) rfl (fun _ _ _ _ ha hA => SlO.agree ha hA) ?_
  rintro ⟨a4, c5⟩ S2
  refine o_know (fun w hw => own_len (i := 0) (T := tEntry) hw rfl) (fun hlr6 => ?_)
  refine o_pure (p_move (v := .tuple #[.agg #[.int .i64 ((Exp.put s key n now).life), .slice a4 ((Exp.put s key n now).entries).length c5], .int .i64 (Exp.putErr s key n now)]) rfl) rfl rfl rfl ?_
  refine o_pure (p_extract (vs := [.agg #[.int .i64 ((Exp.put s key n now).life), .slice a4 ((Exp.put s key n now).entries).length c5], .int .i64 (Exp.putErr s key n now)]) (v := .agg #[.int .i64 ((Exp.put s key n now).life), .slice a4 ((Exp.put s key n now).entries).length c5]) rfl rfl) rfl rfl rfl ?_
  refine o_pure (p_extract (vs := [.agg #[.int .i64 ((Exp.put s key n now).life), .slice a4 ((Exp.put s key n now).entries).length c5], .int .i64 (Exp.putErr s key n now)]) (v := .int .i64 (Exp.putErr s key n now)) rfl rfl) rfl rfl rfl ?_
  refine o_alloc ze24 rfl (fun B7 => ?_)
  refine o_storeN (i := 0) (vs := [.int .i64 ((Exp.put s key n now).life), .slice a4 ((Exp.put s key n now).entries).length c5]) (cs' := [.int .i64 ((Exp.put s key n now).life), .slice a4 ((Exp.put s key n now).entries).length c5]) rfl rfl rfl sz24 rfl rfl rfl rfl ?_
  refine o_pure (p_assign (v := .int .i64 (Exp.putErr s key n now)) rfl) rfl rfl rfl ?_
  refine o_nil ?_
  refine q_then ?_
  refine c_seq ?_
  refine c_seq ?_
  refine c_region ?_
  refine o_call0 (v := .bool true) rfl (expireBegun_ok ) hf24 (fun _ _ => trivial) rfl ?_
  refine o_pure (p_not (b := true) rfl) rfl rfl rfl ?_
  refine o_nil ?_
  refine q_then ?_
  refine c_false rfl ?_
  refine c_skip ?_
  refine q_then ?_
  refine c_seq ?_
  refine c_seq ?_
  refine c_region ?_
  refine o_pure (p_move (v := .int .i64 (Exp.putErr s key n now)) rfl) rfl rfl rfl ?_
  refine o_pure (p_ne (p := (Exp.putErr s key n now)) (q := 0) rfl rfl) rfl rfl rfl ?_
  refine o_pure (p_move (v := .bool ((Exp.putErr s key n now) != 0)) rfl) rfl rfl rfl ?_
  refine o_or (p := 37) 4 (other == key) ?_ ?_ ?_
  · intro hb8 hk
    simp only [bne_eq_false_iff_eq] at hb8
    refine o_unguard 33 rfl rfl ?_
    refine o_pure (p_move (v := .int .i64 other) rfl) rfl rfl rfl ?_
    refine o_unguard 33 rfl rfl ?_
    refine o_pure (p_move (v := .int .i64 key) rfl) rfl rfl rfl ?_
    refine o_unguard 33 rfl rfl ?_
    refine o_pure (p_eq (p := other) (q := key) rfl rfl) rfl rfl rfl ?_
    refine o_pure (p_pick_false (v := .bool (other == key)) rfl rfl) rfl rfl rfl ?_
    exact o_sub (Sub.cons rfl (Sub.skip rfl (Sub.skip rfl (Sub.skip rfl (Sub.skip rfl (Sub.skip rfl (Sub.refl _))))))) hk
  · intro hb8 hk
    refine o_guard_no rfl 33 rfl rfl rfl rfl rfl ?_
    refine o_guard_no rfl 33 rfl rfl rfl rfl rfl ?_
    refine o_guard_no rfl 33 rfl rfl rfl rfl rfl ?_
    refine o_pure (p_pick_true (u := .bool true) rfl rfl) rfl rfl rfl ?_
    exact o_sub (Sub.cons rfl (Sub.skip rfl (Sub.skip rfl (Sub.skip rfl (Sub.skip rfl (Sub.skip rfl (Sub.refl _))))))) hk
  refine o_pure (p_move (v := .bool (((Exp.putErr s key n now) != 0) || (other == key))) rfl) rfl rfl rfl ?_
  refine o_or (p := 42) 4 (decide (later < now)) ?_ ?_ ?_
  · intro hb9 hk
    simp only [Bool.or_eq_false_iff, bne_eq_false_iff_eq, beq_eq_false_iff_ne, ne_eq] at hb9
    refine o_unguard 38 rfl rfl ?_
    refine o_pure (p_move (v := .int .i64 later) rfl) rfl rfl rfl ?_
    refine o_unguard 38 rfl rfl ?_
    refine o_pure (p_move (v := .int .i64 now) rfl) rfl rfl rfl ?_
    refine o_unguard 38 rfl rfl ?_
    refine o_pure (p_lt (p := later) (q := now) rfl rfl) rfl rfl rfl ?_
    refine o_pure (p_pick_false (v := .bool (decide (later < now))) rfl rfl) rfl rfl rfl ?_
    exact o_sub (Sub.cons rfl (Sub.skip rfl (Sub.skip rfl (Sub.skip rfl (Sub.skip rfl (Sub.skip rfl (Sub.refl _))))))) hk
  · intro hb9 hk
    refine o_guard_no rfl 38 rfl rfl rfl rfl rfl ?_
    refine o_guard_no rfl 38 rfl rfl rfl rfl rfl ?_
    refine o_guard_no rfl 38 rfl rfl rfl rfl rfl ?_
    refine o_pure (p_pick_true (u := .bool true) rfl rfl) rfl rfl rfl ?_
    exact o_sub (Sub.cons rfl (Sub.skip rfl (Sub.skip rfl (Sub.skip rfl (Sub.skip rfl (Sub.skip rfl (Sub.refl _))))))) hk
  refine o_nil ?_
  refine q_then ?_
  refine c_cond (b := ((((Exp.putErr s key n now) != 0) || (other == key)) || decide (later < now))) rfl (fun hc10 => ?_) (fun hc10 => ?_)
  · simp only [Bool.or_eq_true, bne_iff_ne, ne_eq, beq_iff_eq, decide_eq_true_eq] at hc10
    refine c_seq ?_
    refine c_region ?_
    refine o_pure (p_assign (v := .bool true) rfl) rfl rfl rfl ?_
    refine o_nil ?_
    refine q_then ?_
    refine c_ret ?_
    refine q_then_ret ?_
    refine q_end0 (v := .bool true) (rt1 rfl (r_tmp rfl)) (i := 3) rfl ?_
    exact rfl
  · simp only [Bool.or_eq_false_iff, bne_eq_false_iff_eq, beq_eq_false_iff_ne, ne_eq, decide_eq_false_iff_not, Int.not_lt] at hc10
    have hfine := hc10
    refine c_skip ?_
    refine q_then ?_
    refine c_seq ?_
    refine c_region ?_
    refine o_pure (p_load_agg (i := 2) (vs := [.int .i64 s.life, .slice as_0 s.entries.length cs_0]) rfl rfl sh24 rfl rfl) rfl rfl rfl ?_
    refine o_pure (p_move (v := .int .i64 other) rfl) rfl rfl rfl ?_
    refine o_pure (p_move (v := .int .i64 later) rfl) rfl rfl rfl ?_
    refine o_call0 (v := .tuple #[.int .i64 ((Exp.get s other later).1), .bool ((Exp.get s other later).2), .int .i64 (Exp.getErr s other later)]) rfl (eget_ok s as_0 cs_0 other later) hf16 (fun w hw => (rd_base (i := 3) rfl hs_0) w hw) rfl ?_
    refine o_pure (p_move (v := .tuple #[.int .i64 ((Exp.get s other later).1), .bool ((Exp.get s other later).2), .int .i64 (Exp.getErr s other later)]) rfl) rfl rfl rfl ?_
    refine o_pure (p_extract (vs := [.int .i64 ((Exp.get s other later).1), .bool ((Exp.get s other later).2), .int .i64 (Exp.getErr s other later)]) (v := .int .i64 ((Exp.get s other later).1)) rfl rfl) rfl rfl rfl ?_
    refine o_pure (p_extract (vs := [.int .i64 ((Exp.get s other later).1), .bool ((Exp.get s other later).2), .int .i64 (Exp.getErr s other later)]) (v := .bool ((Exp.get s other later).2)) rfl rfl) rfl rfl rfl ?_
    refine o_pure (p_extract (vs := [.int .i64 ((Exp.get s other later).1), .bool ((Exp.get s other later).2), .int .i64 (Exp.getErr s other later)]) (v := .int .i64 (Exp.getErr s other later)) rfl rfl) rfl rfl rfl ?_
    refine o_pure (p_assign (v := .int .i64 ((Exp.get s other later).1)) rfl) rfl rfl rfl ?_
    refine o_pure (p_assign (v := .bool ((Exp.get s other later).2)) rfl) rfl rfl rfl ?_
    refine o_pure (p_assign (v := .int .i64 (Exp.getErr s other later)) rfl) rfl rfl rfl ?_
    refine o_nil ?_
    refine q_then ?_
    refine c_seq ?_
    refine c_region ?_
    refine o_pure (p_load_agg (i := 0) (vs := [.int .i64 ((Exp.put s key n now).life), .slice a4 ((Exp.put s key n now).entries).length c5]) rfl rfl sh24 rfl rfl) rfl rfl rfl ?_
    refine o_pure (p_move (v := .int .i64 other) rfl) rfl rfl rfl ?_
    refine o_pure (p_move (v := .int .i64 later) rfl) rfl rfl rfl ?_
    refine o_call0 (v := .tuple #[.int .i64 ((Exp.get (Exp.put s key n now) other later).1), .bool ((Exp.get (Exp.put s key n now) other later).2), .int .i64 (Exp.getErr (Exp.put s key n now) other later)]) rfl (eget_ok (Exp.put s key n now) a4 c5 other later) hf16 (fun w hw => (rd_own (i := 1) rfl) w hw) rfl ?_
    refine o_pure (p_move (v := .tuple #[.int .i64 ((Exp.get (Exp.put s key n now) other later).1), .bool ((Exp.get (Exp.put s key n now) other later).2), .int .i64 (Exp.getErr (Exp.put s key n now) other later)]) rfl) rfl rfl rfl ?_
    refine o_pure (p_extract (vs := [.int .i64 ((Exp.get (Exp.put s key n now) other later).1), .bool ((Exp.get (Exp.put s key n now) other later).2), .int .i64 (Exp.getErr (Exp.put s key n now) other later)]) (v := .int .i64 ((Exp.get (Exp.put s key n now) other later).1)) rfl rfl) rfl rfl rfl ?_
    refine o_pure (p_extract (vs := [.int .i64 ((Exp.get (Exp.put s key n now) other later).1), .bool ((Exp.get (Exp.put s key n now) other later).2), .int .i64 (Exp.getErr (Exp.put s key n now) other later)]) (v := .bool ((Exp.get (Exp.put s key n now) other later).2)) rfl rfl) rfl rfl rfl ?_
    refine o_pure (p_extract (vs := [.int .i64 ((Exp.get (Exp.put s key n now) other later).1), .bool ((Exp.get (Exp.put s key n now) other later).2), .int .i64 (Exp.getErr (Exp.put s key n now) other later)]) (v := .int .i64 (Exp.getErr (Exp.put s key n now) other later)) rfl rfl) rfl rfl rfl ?_
    refine o_pure (p_assign (v := .int .i64 ((Exp.get (Exp.put s key n now) other later).1)) rfl) rfl rfl rfl ?_
    refine o_pure (p_assign (v := .bool ((Exp.get (Exp.put s key n now) other later).2)) rfl) rfl rfl rfl ?_
    refine o_pure (p_assign (v := .int .i64 (Exp.getErr (Exp.put s key n now) other later)) rfl) rfl rfl rfl ?_
    refine o_nil ?_
    refine q_then ?_
    refine c_seq ?_
    refine c_region ?_
    refine o_pure (p_move (v := .int .i64 (Exp.getErr s other later)) rfl) rfl rfl rfl ?_
    refine o_pure (p_move (v := .int .i64 (Exp.getErr (Exp.put s key n now) other later)) rfl) rfl rfl rfl ?_
    refine o_pure (p_eq (p := (Exp.getErr s other later)) (q := (Exp.getErr (Exp.put s key n now) other later)) rfl rfl) rfl rfl rfl ?_
    refine o_pure (p_move (v := .bool ((Exp.getErr s other later) == (Exp.getErr (Exp.put s key n now) other later))) rfl) rfl rfl rfl ?_
    refine o_and (p := 66) 4 (((Exp.get s other later).1) == ((Exp.get (Exp.put s key n now) other later).1)) ?_ ?_ ?_
    · intro hb11 hk
      simp only [beq_iff_eq] at hb11
      refine o_unguard 62 rfl rfl ?_
      refine o_pure (p_move (v := .int .i64 ((Exp.get s other later).1)) rfl) rfl rfl rfl ?_
      refine o_unguard 62 rfl rfl ?_
      refine o_pure (p_move (v := .int .i64 ((Exp.get (Exp.put s key n now) other later).1)) rfl) rfl rfl rfl ?_
      refine o_unguard 62 rfl rfl ?_
      refine o_pure (p_eq (p := ((Exp.get s other later).1)) (q := ((Exp.get (Exp.put s key n now) other later).1)) rfl rfl) rfl rfl rfl ?_
      refine o_pure (p_pick_true (u := .bool (((Exp.get s other later).1) == ((Exp.get (Exp.put s key n now) other later).1))) rfl rfl) rfl rfl rfl ?_
      exact o_sub (Sub.cons rfl (Sub.skip rfl (Sub.skip rfl (Sub.skip rfl (Sub.skip rfl (Sub.skip rfl (Sub.refl _))))))) hk
    · intro hb11 hk
      refine o_guard_no rfl 62 rfl rfl rfl rfl rfl ?_
      refine o_guard_no rfl 62 rfl rfl rfl rfl rfl ?_
      refine o_guard_no rfl 62 rfl rfl rfl rfl rfl ?_
      refine o_pure (p_pick_false (v := .bool false) rfl rfl) rfl rfl rfl ?_
      exact o_sub (Sub.cons rfl (Sub.skip rfl (Sub.skip rfl (Sub.skip rfl (Sub.skip rfl (Sub.skip rfl (Sub.refl _))))))) hk
    refine o_pure (p_move (v := .bool (((Exp.getErr s other later) == (Exp.getErr (Exp.put s key n now) other later)) && (((Exp.get s other later).1) == ((Exp.get (Exp.put s key n now) other later).1)))) rfl) rfl rfl rfl ?_
    refine o_and (p := 71) 4 (((Exp.get s other later).2) == ((Exp.get (Exp.put s key n now) other later).2)) ?_ ?_ ?_
    · intro hb12 hk
      simp only [Bool.and_eq_true, beq_iff_eq] at hb12
      refine o_unguard 67 rfl rfl ?_
      refine o_pure (p_move (v := .bool ((Exp.get s other later).2)) rfl) rfl rfl rfl ?_
      refine o_unguard 67 rfl rfl ?_
      refine o_pure (p_move (v := .bool ((Exp.get (Exp.put s key n now) other later).2)) rfl) rfl rfl rfl ?_
      refine o_unguard 67 rfl rfl ?_
      refine o_pure (p_eqBool (b := ((Exp.get s other later).2)) (c := ((Exp.get (Exp.put s key n now) other later).2)) rfl rfl Try.underlying4) rfl rfl rfl ?_
      refine o_pure (p_pick_true (u := .bool (((Exp.get s other later).2) == ((Exp.get (Exp.put s key n now) other later).2))) rfl rfl) rfl rfl rfl ?_
      exact o_sub (Sub.cons rfl (Sub.skip rfl (Sub.skip rfl (Sub.skip rfl (Sub.skip rfl (Sub.skip rfl (Sub.refl _))))))) hk
    · intro hb12 hk
      refine o_guard_no rfl 67 rfl rfl rfl rfl rfl ?_
      refine o_guard_no rfl 67 rfl rfl rfl rfl rfl ?_
      refine o_guard_no rfl 67 rfl rfl rfl rfl rfl ?_
      refine o_pure (p_pick_false (v := .bool false) rfl rfl) rfl rfl rfl ?_
      exact o_sub (Sub.cons rfl (Sub.skip rfl (Sub.skip rfl (Sub.skip rfl (Sub.skip rfl (Sub.skip rfl (Sub.refl _))))))) hk
    refine o_pure (p_assign (v := .bool ((((Exp.getErr s other later) == (Exp.getErr (Exp.put s key n now) other later)) && (((Exp.get s other later).1) == ((Exp.get (Exp.put s key n now) other later).1))) && (((Exp.get s other later).2) == ((Exp.get (Exp.put s key n now) other later).2)))) rfl) rfl rfl rfl ?_
    refine o_nil ?_
    refine q_then ?_
    refine c_ret ?_
    have hr0 : (((((Exp.getErr s other later) == (Exp.getErr (Exp.put s key n now) other later)) && (((Exp.get s other later).1) == ((Exp.get (Exp.put s key n now) other later).1))) && (((Exp.get s other later).2) == ((Exp.get (Exp.put s key n now) other later).2))) : Bool) = true := by
      first | rfl | (obtain ⟨r1, r2⟩ := Exp.others (n := n) hfine.1.1 hfine.1.2 hfine.2; rw [← r1, ← r2]; simp)
    refine q_end0 (v := .bool ((((Exp.getErr s other later) == (Exp.getErr (Exp.put s key n now) other later)) && (((Exp.get s other later).1) == ((Exp.get (Exp.put s key n now) other later).1))) && (((Exp.get s other later).2) == ((Exp.get (Exp.put s key n now) other later).2)))) (rt1 rfl (r_tmp rfl)) (i := 3) rfl ?_
    exact (by have hcc := congrArg (fun (y0 : Bool) => (.bool y0 : Value)) hr0; exact hcc)
end Go.Proofs.Ytkndekkacimekaa
