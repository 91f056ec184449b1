/- The walks, printed by a program from the translation and a specification. -/
import Derived.Test.YtkndekkacimekaaExF
import Derived.Test.YtkndekkacimekaaExLaw2
import Derived.Test.YtkndekkacimekaaExW13
namespace Go.Proofs.Ytkndekkacimekaa
open Go.Sx Go.RowKit
set_option maxHeartbeats 8000000 in
set_option maxRecDepth 100000 in
theorem expireLifetime_ok (s : DStore) (as_0 : Option Addr) (cs_0 : Nat) (key : Int) (n : Int) (now : Int) (later : Int) : Fn0 Try.prog 4 [.agg #[.int .i64 s.life, .slice as_0 s.entries.length cs_0], .int .i64 key, .int .i64 n, .int .i64 now, .int .i64 later] (fun w => Rd tEntry w as_0 cs_0 s.entries) (.bool true) := by
  refine fn0 (nt := 86) (F0 := [(0, .agg #[.int .i64 s.life, .slice as_0 s.entries.length cs_0]), (1, .int .i64 key), (2, .int .i64 n), (3, .int .i64 now), (4, .int .i64 later)]) Try.func4 rfl Try.ntmps4 rfl rfl (fun w0 hpre => ?_)
  have hs_0 := hpre
  have hlhs_0 := hs_0.2.1
  refine c_seq ?_
  refine c_region ?_
  refine o_box (v := .agg #[.int .i64 s.life, .slice as_0 s.entries.length cs_0]) rfl rfl (fun B1 => ?_)
  refine o_pure (p_assign (v := .bool false) rfl) rfl rfl rfl ?_
  refine o_nil ?_
  refine q_then ?_
  refine c_seq ?_
  refine c_region ?_
  refine o_pure (p_load_agg (i := 0) (vs := [.int .i64 s.life, .slice as_0 s.entries.length cs_0]) rfl rfl sh24 rfl rfl) rfl rfl rfl ?_
  refine o_pure (p_move (v := .int .i64 key) rfl) rfl rfl rfl ?_
  refine o_pure (p_move (v := .int .i64 n) rfl) rfl rfl rfl ?_
  refine o_pure (p_move (v := .int .i64 now) rfl) rfl rfl rfl ?_
  refine o_callM rfl (eput_ok s as_0 cs_0 key n now) hf15 (fun w hw => (rd_base (i := 1) rfl hs_0) w hw) rfl (fun _ _ _ _ ha hA => SlO.agree ha hA) ?_
  rintro ⟨a4, c5⟩ S2
  refine o_know (fun w hw => own_len (i := 0) (T := tEntry) hw rfl) (fun hlr6 => ?_)
  refine o_pure (p_move (v := .tuple #[.agg #[.int .i64 ((Exp.put s key n now).life), .slice a4 ((Exp.put s key n now).entries).length c5], .int .i64 (Exp.putErr s key n now)]) rfl) rfl rfl rfl ?_
  refine o_pure (p_extract (vs := [.agg #[.int .i64 ((Exp.put s key n now).life), .slice a4 ((Exp.put s key n now).entries).length c5], .int .i64 (Exp.putErr s key n now)]) (v := .agg #[.int .i64 ((Exp.put s key n now).life), .slice a4 ((Exp.put s key n now).entries).length c5]) rfl rfl) rfl rfl rfl ?_
  refine o_pure (p_extract (vs := [.agg #[.int .i64 ((Exp.put s key n now).life), .slice a4 ((Exp.put s key n now).entries).length c5], .int .i64 (Exp.putErr s key n now)]) (v := .int .i64 (Exp.putErr s key n now)) rfl rfl) rfl rfl rfl ?_
  refine o_alloc ze24 rfl (fun B7 => ?_)
  refine o_storeN (i := 0) (vs := [.int .i64 ((Exp.put s key n now).life), .slice a4 ((Exp.put s key n now).entries).length c5]) (cs' := [.int .i64 ((Exp.put s key n now).life), .slice a4 ((Exp.put s key n now).entries).length c5]) rfl rfl rfl sz24 rfl rfl rfl rfl ?_
  refine o_pure (p_assign (v := .int .i64 (Exp.putErr s key n now)) rfl) rfl rfl rfl ?_
  refine o_nil ?_
  refine q_then ?_
  refine c_seq ?_
  refine c_seq ?_
  refine c_region ?_
  refine o_call0 (v := .bool true) rfl (expireBegun_ok ) hf24 (fun _ _ => trivial) rfl ?_
  refine o_pure (p_not (b := true) rfl) rfl rfl rfl ?_
  refine o_nil ?_
  refine q_then ?_
  refine c_false rfl ?_
  refine c_skip ?_
  refine q_then ?_
  refine c_seq ?_
  refine c_seq ?_
  refine c_region ?_
  refine o_pure (p_move (v := .int .i64 (Exp.putErr s key n now)) rfl) rfl rfl rfl ?_
  refine o_pure (p_ne (p := (Exp.putErr s key n now)) (q := 0) rfl rfl) rfl rfl rfl ?_
  refine o_nil ?_
  refine q_then ?_
  refine c_cond (b := ((Exp.putErr s key n now) != 0)) rfl (fun hc8 => ?_) (fun hc8 => ?_)
  · simp only [bne_iff_ne, ne_eq] at hc8
    refine c_seq ?_
    refine c_region ?_
    refine o_pure (p_fieldAddr (B := B7) (j := 0) (j' := 1) rfl fo24_1 rfl) rfl rfl rfl ?_
    refine o_pure (p_load (i := 0) (v := .slice a4 ((Exp.put s key n now).entries).length c5) rfl rfl sh22 rfl) rfl rfl rfl ?_
    refine o_pure (p_len_slice (len := ((Exp.put s key n now).entries).length) rfl rfl Try.underlying22) rfl rfl rfl ?_
    refine o_pure (p_eq (p := (((Exp.put s key n now).entries).length : Int)) (q := 0) rfl rfl) rfl rfl rfl ?_
    refine o_pure (p_assign (v := .bool ((((Exp.put s key n now).entries).length : Int) == 0)) rfl) rfl rfl rfl ?_
    refine o_nil ?_
    refine q_then ?_
    refine c_ret ?_
    refine q_then_ret ?_
    have hr0 : (((((Exp.put s key n now).entries).length : Int) == 0) : Bool) = true := by
      first | (rw [Exp.put_zero (by assumption)]; rfl) | (have h9 := Exp.life_err hput (by assumption); simp; omega) | (obtain ⟨r1, r2, r3⟩ := Exp.life_sweep hput; rw [r1, r2, r3]; rfl)
    refine q_end0 (v := .bool ((((Exp.put s key n now).entries).length : Int) == 0)) (rt1 rfl (r_tmp rfl)) (i := 3) rfl ?_
    exact (by have hcc := congrArg (fun (y0 : Bool) => (.bool y0 : Value)) hr0; exact hcc)
  · simp only [bne_eq_false_iff_eq] at hc8
    have hput := hc8
    refine c_skip ?_
    refine q_then ?_
    refine c_seq ?_
    refine c_region ?_
    refine o_pure (p_load_agg (i := 0) (vs := [.int .i64 ((Exp.put s key n now).life), .slice a4 ((Exp.put s key n now).entries).length c5]) rfl rfl sh24 rfl rfl) rfl rfl rfl ?_
    refine o_pure (p_move (v := .int .i64 key) rfl) rfl rfl rfl ?_
    refine o_pure (p_move (v := .int .i64 later) rfl) rfl rfl rfl ?_
    refine o_call0 (v := .tuple #[.int .i64 ((Exp.get (Exp.put s key n now) key later).1), .bool ((Exp.get (Exp.put s key n now) key later).2), .int .i64 (Exp.getErr (Exp.put s key n now) key later)]) rfl (eget_ok (Exp.put s key n now) a4 c5 key later) hf16 (fun w hw => (rd_own (i := 1) rfl) w hw) rfl ?_
    refine o_pure (p_move (v := .tuple #[.int .i64 ((Exp.get (Exp.put s key n now) key later).1), .bool ((Exp.get (Exp.put s key n now) key later).2), .int .i64 (Exp.getErr (Exp.put s key n now) key later)]) rfl) rfl rfl rfl ?_
    refine o_pure (p_extract (vs := [.int .i64 ((Exp.get (Exp.put s key n now) key later).1), .bool ((Exp.get (Exp.put s key n now) key later).2), .int .i64 (Exp.getErr (Exp.put s key n now) key later)]) (v := .int .i64 ((Exp.get (Exp.put s key n now) key later).1)) rfl rfl) rfl rfl rfl ?_
    refine o_pure (p_extract (vs := [.int .i64 ((Exp.get (Exp.put s key n now) key later).1), .bool ((Exp.get (Exp.put s key n now) key later).2), .int .i64 (Exp.getErr (Exp.put s key n now) key later)]) (v := .bool ((Exp.get (Exp.put s key n now) key later).2)) rfl rfl) rfl rfl rfl ?_
    refine o_pure (p_extract (vs := [.int .i64 ((Exp.get (Exp.put s key n now) key later).1), .bool ((Exp.get (Exp.put s key n now) key later).2), .int .i64 (Exp.getErr (Exp.put s key n now) key later)]) (v := .int .i64 (Exp.getErr (Exp.put s key n now) key later)) rfl rfl) rfl rfl rfl ?_
    refine o_pure (p_assign (v := .int .i64 ((Exp.get (Exp.put s key n now) key later).1)) rfl) rfl rfl rfl ?_
    refine o_pure (p_assign (v := .bool ((Exp.get (Exp.put s key n now) key later).2)) rfl) rfl rfl rfl ?_
    refine o_pure (p_assign (v := .int .i64 (Exp.getErr (Exp.put s key n now) key later)) rfl) rfl rfl rfl ?_
    refine o_nil ?_
    refine q_then ?_
    refine c_seq ?_
    refine c_seq ?_
    refine c_region ?_
    refine o_pure (p_move (v := .int .i64 (Exp.getErr (Exp.put s key n now) key later)) rfl) rfl rfl rfl ?_
    refine o_pure (p_ne (p := (Exp.getErr (Exp.put s key n now) key later)) (q := 0) rfl rfl) rfl rfl rfl ?_
    refine o_nil ?_
    refine q_then ?_
    refine c_cond (b := ((Exp.getErr (Exp.put s key n now) key later) != 0)) rfl (fun hc9 => ?_) (fun hc9 => ?_)
    · simp only [bne_iff_ne, ne_eq] at hc9
      refine c_seq ?_
      refine c_region ?_
      refine o_pure (p_move (v := .int .i64 later) rfl) rfl rfl rfl ?_
      refine o_pure (p_lt (p := later) (q := 0) rfl rfl) rfl rfl rfl ?_
      refine o_pure (p_move (v := .bool (decide (later < 0))) rfl) rfl rfl rfl ?_
      refine o_or (p := 50) 3 (decide (1099511627776 < later)) ?_ ?_ ?_
      · intro hb10 hk
        simp only [decide_eq_false_iff_not, Int.not_lt] at hb10
        refine o_unguard 47 rfl rfl ?_
        refine o_pure (p_move (v := .int .i64 later) rfl) rfl rfl rfl ?_
        refine o_unguard 47 rfl rfl ?_
        refine o_pure (p_gt (p := later) (q := 1099511627776) rfl rfl) rfl rfl rfl ?_
        refine o_pure (p_pick_false (v := .bool (decide (1099511627776 < later))) rfl rfl) rfl rfl rfl ?_
        exact o_sub (Sub.cons rfl (Sub.skip rfl (Sub.skip rfl (Sub.skip rfl (Sub.skip rfl (Sub.refl _)))))) hk
      · intro hb10 hk
        refine o_guard_no rfl 47 rfl rfl rfl rfl rfl ?_
        refine o_guard_no rfl 47 rfl rfl rfl rfl rfl ?_
        refine o_pure (p_pick_true (u := .bool true) rfl rfl) rfl rfl rfl ?_
        exact o_sub (Sub.cons rfl (Sub.skip rfl (Sub.skip rfl (Sub.skip rfl (Sub.skip rfl (Sub.refl _)))))) hk
      refine o_pure (p_assign (v := .bool (decide (later < 0) || decide (1099511627776 < later))) rfl) rfl rfl rfl ?_
      refine o_nil ?_
      refine q_then ?_
      refine c_ret ?_
      refine q_then_ret ?_
      have hr0 : ((decide (later < 0) || decide (1099511627776 < later)) : Bool) = true := by
        first | (rw [Exp.put_zero (by assumption)]; rfl) | (have h9 := Exp.life_err hput (by assumption); simp; omega) | (obtain ⟨r1, r2, r3⟩ := Exp.life_sweep hput; rw [r1, r2, r3]; rfl)
      refine q_end0 (v := .bool (decide (later < 0) || decide (1099511627776 < later))) (rt1 rfl (r_tmp rfl)) (i := 3) rfl ?_
      exact (by have hcc := congrArg (fun (y0 : Bool) => (.bool y0 : Value)) hr0; exact hcc)
    · simp only [bne_eq_false_iff_eq] at hc9
      have hgt := hc9
      have hnums := Exp.life_nums hput hgt
      refine c_skip ?_
      refine q_then ?_
      refine c_seq ?_
      refine c_seq ?_
      refine c_region ?_
      refine o_pure (p_move (v := .int .i64 later) rfl) rfl rfl rfl ?_
      refine o_pure (p_move (v := .int .i64 now) rfl) rfl rfl rfl ?_
      refine o_pure (p_subb (p := later) (q := now) rfl rfl (by omega)) rfl rfl rfl ?_
      refine o_pure (p_fieldAddr (B := B1) (j := 0) (j' := 0) rfl fo24_0 rfl) rfl rfl rfl ?_
      refine o_pure (p_load (i := 2) (v := .int .i64 s.life) rfl rfl sh3 rfl) rfl rfl rfl ?_
      refine o_pure (p_lt (p := (later - now)) (q := s.life) rfl rfl) rfl rfl rfl ?_
      refine o_pure (p_move (v := .bool ((Exp.get (Exp.put s key n now) key later).2)) rfl) rfl rfl rfl ?_
      refine o_pure (p_neBool (b := decide ((later - now) < s.life)) (c := ((Exp.get (Exp.put s key n now) key later).2)) rfl rfl Try.underlying4) rfl rfl rfl ?_
      refine o_pure (p_move (v := .bool (decide ((later - now) < s.life) != ((Exp.get (Exp.put s key n now) key later).2))) rfl) rfl rfl rfl ?_
      refine o_or (p := 66) 7 (((Exp.get (Exp.put s key n now) key later).2) && (((Exp.get (Exp.put s key n now) key later).1) != n)) ?_ ?_ ?_
      · intro hb11 hk
        simp only [bne_eq_false_iff_eq] at hb11
        refine o_unguard 59 rfl rfl ?_
        refine o_pure (p_move (v := .bool ((Exp.get (Exp.put s key n now) key later).2)) rfl) rfl rfl rfl ?_
        refine o_unguard 59 rfl rfl ?_
        refine o_pure (p_move (v := .bool ((Exp.get (Exp.put s key n now) key later).2)) rfl) rfl rfl rfl ?_
        refine o_and (p := 65) 4 (((Exp.get (Exp.put s key n now) key later).1) != n) ?_ ?_ ?_
        · intro hb12 hk
          skip
          refine o_unguard 61 rfl rfl ?_
          refine o_pure (p_move (v := .int .i64 ((Exp.get (Exp.put s key n now) key later).1)) rfl) rfl rfl rfl ?_
          refine o_unguard 61 rfl rfl ?_
          refine o_pure (p_move (v := .int .i64 n) rfl) rfl rfl rfl ?_
          refine o_unguard 61 rfl rfl ?_
          refine o_pure (p_ne (p := ((Exp.get (Exp.put s key n now) key later).1)) (q := n) rfl rfl) rfl rfl rfl ?_
          refine o_unguard 59 rfl rfl ?_
          refine o_pure (p_pick_true (u := .bool (((Exp.get (Exp.put s key n now) key later).1) != n)) rfl rfl) rfl rfl rfl ?_
          exact o_sub (Sub.cons rfl (Sub.skip rfl (Sub.skip rfl (Sub.skip rfl (Sub.skip rfl (Sub.skip rfl (Sub.refl _))))))) hk
        · intro hb12 hk
          refine o_guard_no rfl 61 rfl rfl rfl rfl rfl ?_
          refine o_guard_no rfl 61 rfl rfl rfl rfl rfl ?_
          refine o_guard_no rfl 61 rfl rfl rfl rfl rfl ?_
          refine o_unguard 59 rfl rfl ?_
          refine o_pure (p_pick_false (v := .bool false) rfl rfl) rfl rfl rfl ?_
          exact o_sub (Sub.cons rfl (Sub.skip rfl (Sub.skip rfl (Sub.skip rfl (Sub.skip rfl (Sub.skip rfl (Sub.refl _))))))) hk
        refine o_pure (p_pick_false (v := .bool (((Exp.get (Exp.put s key n now) key later).2) && (((Exp.get (Exp.put s key n now) key later).1) != n))) rfl rfl) rfl rfl rfl ?_
        exact o_sub (Sub.cons rfl (Sub.skip rfl (Sub.skip rfl (Sub.skip rfl (Sub.skip rfl (Sub.refl _)))))) hk
      · intro hb11 hk
        refine o_guard_no rfl 59 rfl rfl rfl rfl rfl ?_
        refine o_guard_no rfl 59 rfl rfl rfl rfl rfl ?_
        refine o_guard_no rfl 61 rfl rfl rfl rfl rfl ?_
        refine o_guard_no rfl 61 rfl rfl rfl rfl rfl ?_
        refine o_guard_no rfl 61 rfl rfl rfl rfl rfl ?_
        refine o_guard_no rfl 59 rfl rfl rfl rfl rfl ?_
        refine o_pure (p_pick_true (u := .bool true) rfl rfl) rfl rfl rfl ?_
        exact o_sub (Sub.cons rfl (Sub.skip rfl (Sub.skip rfl (Sub.skip rfl (Sub.skip rfl (Sub.skip rfl (Sub.skip rfl (Sub.skip rfl (Sub.skip rfl (Sub.refl _)))))))))) hk
      refine o_nil ?_
      refine q_then ?_
      refine c_cond (b := ((decide ((later - now) < s.life) != ((Exp.get (Exp.put s key n now) key later).2)) || (((Exp.get (Exp.put s key n now) key later).2) && (((Exp.get (Exp.put s key n now) key later).1) != n)))) rfl (fun hc13 => ?_) (fun hc13 => ?_)
      · simp only [Bool.or_eq_true, bne_iff_ne, ne_eq, Bool.and_eq_true] at hc13
        exfalso; exact Exp.life_bad hput hgt (by simpa using hc13)
      · simp only [Bool.or_eq_false_iff, bne_eq_false_iff_eq, Bool.and_eq_false_iff] at hc13
        refine c_skip ?_
        refine q_then ?_
        refine c_seq ?_
        refine c_region ?_
        refine o_pure (p_load_agg (i := 0) (vs := [.int .i64 ((Exp.put s key n now).life), .slice a4 ((Exp.put s key n now).entries).length c5]) rfl rfl sh24 rfl rfl) rfl rfl rfl ?_
        refine o_pure (p_move (v := .int .i64 now) rfl) rfl rfl rfl ?_
        refine o_callM rfl (esweep_ok (Exp.put s key n now) a4 c5 now) hf17 (fun w hw => (rd_own (i := 1) rfl) w hw) rfl (fun _ _ _ _ ha hA => ⟨SlR.agree ha hA.1, SlR.agree ha hA.2⟩) ?_
        rintro ⟨a16, c17, a18, c19⟩ S14
        refine o_know (fun w hw => (hw.at (i := 0) rfl).here.1.2.1) (fun hlr20 => ?_)
        refine o_know (fun w hw => (hw.at (i := 0) rfl).here.2.2.1) (fun hlr21 => ?_)
        refine o_pure (p_move (v := .tuple #[.agg #[.int .i64 (((Exp.sweep (Exp.put s key n now) now).1).life), .slice a16 (((Exp.sweep (Exp.put s key n now) now).1).entries).length c17], .slice a18 ((Exp.sweep (Exp.put s key n now) now).2).length c19, .int .i64 (Exp.nowErr (Exp.put s key n now) now)]) rfl) rfl rfl rfl ?_
        refine o_pure (p_extract (vs := [.agg #[.int .i64 (((Exp.sweep (Exp.put s key n now) now).1).life), .slice a16 (((Exp.sweep (Exp.put s key n now) now).1).entries).length c17], .slice a18 ((Exp.sweep (Exp.put s key n now) now).2).length c19, .int .i64 (Exp.nowErr (Exp.put s key n now) now)]) (v := .agg #[.int .i64 (((Exp.sweep (Exp.put s key n now) now).1).life), .slice a16 (((Exp.sweep (Exp.put s key n now) now).1).entries).length c17]) rfl rfl) rfl rfl rfl ?_
        refine o_pure (p_extract (vs := [.agg #[.int .i64 (((Exp.sweep (Exp.put s key n now) now).1).life), .slice a16 (((Exp.sweep (Exp.put s key n now) now).1).entries).length c17], .slice a18 ((Exp.sweep (Exp.put s key n now) now).2).length c19, .int .i64 (Exp.nowErr (Exp.put s key n now) now)]) (v := .slice a18 ((Exp.sweep (Exp.put s key n now) now).2).length c19) rfl rfl) rfl rfl rfl ?_
        refine o_pure (p_extract (vs := [.agg #[.int .i64 (((Exp.sweep (Exp.put s key n now) now).1).life), .slice a16 (((Exp.sweep (Exp.put s key n now) now).1).entries).length c17], .slice a18 ((Exp.sweep (Exp.put s key n now) now).2).length c19, .int .i64 (Exp.nowErr (Exp.put s key n now) now)]) (v := .int .i64 (Exp.nowErr (Exp.put s key n now) now)) rfl rfl) rfl rfl rfl ?_
        refine o_alloc ze24 rfl (fun B22 => ?_)
        refine o_storeN (i := 0) (vs := [.int .i64 (((Exp.sweep (Exp.put s key n now) now).1).life), .slice a16 (((Exp.sweep (Exp.put s key n now) now).1).entries).length c17]) (cs' := [.int .i64 (((Exp.sweep (Exp.put s key n now) now).1).life), .slice a16 (((Exp.sweep (Exp.put s key n now) now).1).entries).length c17]) rfl rfl rfl sz24 rfl rfl rfl rfl ?_
        refine o_pure (p_assign (v := .slice a18 ((Exp.sweep (Exp.put s key n now) now).2).length c19) rfl) rfl rfl rfl ?_
        refine o_pure (p_assign (v := .int .i64 (Exp.nowErr (Exp.put s key n now) now)) rfl) rfl rfl rfl ?_
        refine o_nil ?_
        refine q_then ?_
        refine c_seq ?_
        refine c_region ?_
        refine o_pure (p_move (v := .int .i64 (Exp.nowErr (Exp.put s key n now) now)) rfl) rfl rfl rfl ?_
        refine o_pure (p_eq (p := (Exp.nowErr (Exp.put s key n now) now)) (q := 0) rfl rfl) rfl rfl rfl ?_
        refine o_pure (p_move (v := .bool ((Exp.nowErr (Exp.put s key n now) now) == 0)) rfl) rfl rfl rfl ?_
        refine o_and (p := 80) 4 ((((Exp.sweep (Exp.put s key n now) now).2).length : Int) == 0) ?_ ?_ ?_
        · intro hb23 hk
          simp only [beq_iff_eq] at hb23
          refine o_unguard 76 rfl rfl ?_
          refine o_pure (p_move (v := .slice a18 ((Exp.sweep (Exp.put s key n now) now).2).length c19) rfl) rfl rfl rfl ?_
          refine o_unguard 76 rfl rfl ?_
          refine o_pure (p_len_slice (len := ((Exp.sweep (Exp.put s key n now) now).2).length) rfl rfl Try.underlying30) rfl rfl rfl ?_
          refine o_unguard 76 rfl rfl ?_
          refine o_pure (p_eq (p := (((Exp.sweep (Exp.put s key n now) now).2).length : Int)) (q := 0) rfl rfl) rfl rfl rfl ?_
          refine o_pure (p_pick_true (u := .bool ((((Exp.sweep (Exp.put s key n now) now).2).length : Int) == 0)) rfl rfl) rfl rfl rfl ?_
          exact o_sub (Sub.cons rfl (Sub.skip rfl (Sub.skip rfl (Sub.skip rfl (Sub.skip rfl (Sub.skip rfl (Sub.refl _))))))) hk
        · intro hb23 hk
          refine o_guard_no rfl 76 rfl rfl rfl rfl rfl ?_
          refine o_guard_no rfl 76 rfl rfl rfl rfl rfl ?_
          refine o_guard_no rfl 76 rfl rfl rfl rfl rfl ?_
          refine o_pure (p_pick_false (v := .bool false) rfl rfl) rfl rfl rfl ?_
          exact o_sub (Sub.cons rfl (Sub.skip rfl (Sub.skip rfl (Sub.skip rfl (Sub.skip rfl (Sub.skip rfl (Sub.refl _))))))) hk
        refine o_pure (p_move (v := .bool (((Exp.nowErr (Exp.put s key n now) now) == 0) && ((((Exp.sweep (Exp.put s key n now) now).2).length : Int) == 0))) rfl) rfl rfl rfl ?_
        refine o_and (p := 85) 4 ((Exp.check (Exp.put s key n now)) == 0) ?_ ?_ ?_
        · intro hb24 hk
          simp only [Bool.and_eq_true, beq_iff_eq] at hb24
          refine o_unguard 81 rfl rfl ?_
          refine o_pure (p_load_agg (i := 2) (vs := [.int .i64 ((Exp.put s key n now).life), .slice a4 ((Exp.put s key n now).entries).length c5]) rfl rfl sh24 rfl rfl) rfl rfl rfl ?_
          refine o_unguard 81 rfl rfl ?_
          refine o_call0 (v := .int .i64 (Exp.check (Exp.put s key n now))) rfl (echeck_ok (Exp.put s key n now) a4 c5) hf25 (fun w hw => (rd_own (i := 3) rfl) w hw) rfl ?_
          refine o_unguard 81 rfl rfl ?_
          refine o_pure (p_eq (p := (Exp.check (Exp.put s key n now))) (q := 0) rfl rfl) rfl rfl rfl ?_
          refine o_pure (p_pick_true (u := .bool ((Exp.check (Exp.put s key n now)) == 0)) rfl rfl) rfl rfl rfl ?_
          exact o_sub (Sub.cons rfl (Sub.skip rfl (Sub.skip rfl (Sub.skip rfl (Sub.skip rfl (Sub.skip rfl (Sub.refl _))))))) hk
        · intro hb24 hk
          refine o_guard_no rfl 81 rfl rfl rfl rfl rfl ?_
          refine o_guard_no rfl 81 rfl rfl rfl rfl rfl ?_
          refine o_guard_no rfl 81 rfl rfl rfl rfl rfl ?_
          refine o_pure (p_pick_false (v := .bool false) rfl rfl) rfl rfl rfl ?_
          exact o_sub (Sub.cons rfl (Sub.skip rfl (Sub.skip rfl (Sub.skip rfl (Sub.skip rfl (Sub.skip rfl (Sub.refl _))))))) hk
        refine o_pure (p_assign (v := .bool ((((Exp.nowErr (Exp.put s key n now) now) == 0) && ((((Exp.sweep (Exp.put s key n now) now).2).length : Int) == 0)) && ((Exp.check (Exp.put s key n now)) == 0))) rfl) rfl rfl rfl ?_
        refine o_nil ?_
        refine q_then ?_
        refine c_ret ?_
        have hr0 : (((((Exp.nowErr (Exp.put s key n now) now) == 0) && ((((Exp.sweep (Exp.put s key n now) now).2).length : Int) == 0)) && ((Exp.check (Exp.put s key n now)) == 0)) : Bool) = true := by
          first | (rw [Exp.put_zero (by assumption)]; rfl) | (have h9 := Exp.life_err hput (by assumption); simp; omega) | (obtain ⟨r1, r2, r3⟩ := Exp.life_sweep hput; rw [r1, r2, r3]; rfl)
        refine q_end0 (v := .bool ((((Exp.nowErr (Exp.put s key n now) now) == 0) && ((((Exp.sweep (Exp.put s key n now) now).2).length : Int) == 0)) && ((Exp.check (Exp.put s key n now)) == 0))) (rt1 rfl (r_tmp rfl)) (i := 5) rfl ?_
        exact (by have hcc := congrArg (fun (y0 : Bool) => (.bool y0 : Value)) hr0; exact hcc)
end Go.Proofs.Ytkndekkacimekaa
