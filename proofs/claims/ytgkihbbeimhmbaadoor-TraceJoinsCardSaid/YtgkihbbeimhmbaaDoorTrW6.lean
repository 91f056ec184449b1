/- The walks, printed by a program from the translation and a specification. -/
import Derived.Test.YtgkihbbeimhmbaaDoorTrF
import Derived.Test.YtgkihbbeimhmbaaDoorTrLaw7
import Derived.Test.YtgkihbbeimhmbaaDoorTrW5
namespace Go.Proofs.YtgkihbbeimhmbaaDoor
open Go.Sx Go.RowKit
set_option maxHeartbeats 8000000 in
set_option maxRecDepth 100000 in
theorem traceRoundTrip_ok (l : List Int) (al : Option Addr) (cl : Nat) : Fn0 Tryd.prog 4 [.slice al l.length cl] (fun w => Rd tInt w al cl l ∧ MaxW w ∧ TabW w) (.bool true) := by
  refine fn0 (nt := 30) (F0 := [(0, .slice al l.length cl)]) Tryd.func4 rfl Tryd.ntmps4 rfl rfl (fun w0 hpre => ?_)
  obtain ⟨hl, hMaxW, hTabW⟩ := hpre
  have hlhl := hl.2.1
  refine c_seq ?_
  refine c_region ?_
  refine o_pure (p_assign (v := .bool false) rfl) rfl rfl rfl ?_
  refine o_nil ?_
  refine q_then ?_
  refine c_seq ?_
  refine c_region ?_
  refine o_pure (p_move (v := .slice al l.length cl) rfl) rfl rfl rfl ?_
  refine o_call0 (v := .tuple #[.string (Trc.format l), .int .i64 (Lru.trace l)]) rfl (tformat_ok l al cl) hf7 (fun w hw => ⟨(rd_base (i := 0) rfl hl) w hw, pre_base (i := 0) rfl TabW_st hTabW w hw⟩) rfl ?_
  refine o_pure (p_move (v := .tuple #[.string (Trc.format l), .int .i64 (Lru.trace l)]) rfl) rfl rfl rfl ?_
  refine o_pure (p_extract (vs := [.string (Trc.format l), .int .i64 (Lru.trace l)]) (v := .string (Trc.format l)) rfl rfl) rfl rfl rfl ?_
  refine o_pure (p_extract (vs := [.string (Trc.format l), .int .i64 (Lru.trace l)]) (v := .int .i64 (Lru.trace l)) rfl rfl) rfl rfl rfl ?_
  refine o_pure (p_assign (v := .string (Trc.format l)) rfl) rfl rfl rfl ?_
  refine o_pure (p_assign (v := .int .i64 (Lru.trace l)) rfl) rfl rfl rfl ?_
  refine o_nil ?_
  refine q_then ?_
  refine c_seq ?_
  refine c_seq ?_
  refine c_region ?_
  refine o_call0 (v := .bool true) rfl (linesBegun_ok ) hf13 (fun w hw => ⟨pre_base (i := 0) rfl MaxW_st hMaxW w hw, pre_base (i := 0) rfl TabW_st hTabW w hw⟩) rfl ?_
  refine o_pure (p_not (b := true) rfl) rfl rfl rfl ?_
  refine o_nil ?_
  refine q_then ?_
  refine c_false rfl ?_
  refine c_skip ?_
  refine q_then ?_
  refine c_seq ?_
  refine c_seq ?_
  refine c_region ?_
  refine o_pure (p_move (v := .int .i64 (Lru.trace l)) rfl) rfl rfl rfl ?_
  refine o_pure (p_ne (p := (Lru.trace l)) (q := 0) rfl rfl) rfl rfl rfl ?_
  refine o_nil ?_
  refine q_then ?_
  refine c_cond (b := ((Lru.trace l) != 0)) rfl (fun hc1 => ?_) (fun hc1 => ?_)
  · simp only [bne_iff_ne, ne_eq] at hc1
    have hx := hc1
    refine c_seq ?_
    refine c_region ?_
    refine o_pure (p_move (v := .string (Trc.format l)) rfl) rfl rfl rfl ?_
    refine o_pure (p_eqStr (s := (Trc.format l)) (t := (ByteArray.mk #[])) rfl rfl) rfl rfl rfl ?_
    refine o_pure (p_assign (v := .bool (decide ((Trc.format l) = (ByteArray.mk #[])))) rfl) rfl rfl rfl ?_
    refine o_nil ?_
    refine q_then ?_
    refine c_ret ?_
    refine q_then_ret ?_
    have hr0 : (decide ((Trc.format l) = (ByteArray.mk #[])) : Bool) = true := by
      first | exact Trc.rt1 hx | exact Trc.rt2 hx
    refine q_end0 (v := .bool (decide ((Trc.format l) = (ByteArray.mk #[])))) (rt1 rfl (r_tmp rfl)) (i := 0) rfl ?_
    exact (by have hcc := congrArg (fun (y0 : Bool) => (.bool y0 : Value)) hr0; exact hcc)
  · simp only [bne_eq_false_iff_eq] at hc1
    have hx := hc1
    refine c_skip ?_
    refine q_then ?_
    refine c_seq ?_
    refine c_region ?_
    refine o_pure (p_move (v := .string (Trc.format l)) rfl) rfl rfl rfl ?_
    refine o_callM rfl (tparse_ok (Trc.format l)) hf8 (fun w hw => pre_base (i := 0) rfl MaxW_st hMaxW w hw) rfl (fun _ _ _ _ ha hA => SlO.agree ha hA) ?_
    rintro ⟨a4, c5⟩ S2
    refine o_know (fun w hw => own_len (i := 0) (T := tInt) hw rfl) (fun hlr6 => ?_)
    refine o_pure (p_move (v := .tuple #[.slice a4 ((Trc.parse (Trc.format l)).1).length c5, .int .i64 ((Trc.parse (Trc.format l)).2)]) rfl) rfl rfl rfl ?_
    refine o_pure (p_extract (vs := [.slice a4 ((Trc.parse (Trc.format l)).1).length c5, .int .i64 ((Trc.parse (Trc.format l)).2)]) (v := .slice a4 ((Trc.parse (Trc.format l)).1).length c5) rfl rfl) rfl rfl rfl ?_
    refine o_pure (p_extract (vs := [.slice a4 ((Trc.parse (Trc.format l)).1).length c5, .int .i64 ((Trc.parse (Trc.format l)).2)]) (v := .int .i64 ((Trc.parse (Trc.format l)).2)) rfl rfl) rfl rfl rfl ?_
    refine o_pure (p_assign (v := .slice a4 ((Trc.parse (Trc.format l)).1).length c5) rfl) rfl rfl rfl ?_
    refine o_pure (p_assign (v := .int .i64 ((Trc.parse (Trc.format l)).2)) rfl) rfl rfl rfl ?_
    refine o_nil ?_
    refine q_then ?_
    refine c_seq ?_
    refine c_region ?_
    refine o_pure (p_move (v := .int .i64 ((Trc.parse (Trc.format l)).2)) rfl) rfl rfl rfl ?_
    refine o_pure (p_eq (p := ((Trc.parse (Trc.format l)).2)) (q := 0) rfl rfl) rfl rfl rfl ?_
    refine o_pure (p_move (v := .bool (((Trc.parse (Trc.format l)).2) == 0)) rfl) rfl rfl rfl ?_
    refine o_and (p := 29) 4 (Ref.sameInts ((Trc.parse (Trc.format l)).1) l) ?_ ?_ ?_
    · intro hb7 hk
      simp only [beq_iff_eq] at hb7
      refine o_unguard 25 rfl rfl ?_
      refine o_pure (p_move (v := .slice a4 ((Trc.parse (Trc.format l)).1).length c5) rfl) rfl rfl rfl ?_
      refine o_unguard 25 rfl rfl ?_
      refine o_pure (p_move (v := .slice al l.length cl) rfl) rfl rfl rfl ?_
      refine o_unguard 25 rfl rfl ?_
      refine o_call0 (v := .bool (Ref.sameInts ((Trc.parse (Trc.format l)).1) l)) rfl (sameInts_ok ((Trc.parse (Trc.format l)).1) a4 c5 l al cl) hf14 (fun w hw => ⟨(rd_own (i := 0) rfl) w hw, (rd_base (i := 1) rfl hl) w hw⟩) rfl ?_
      refine o_pure (p_pick_true (u := .bool (Ref.sameInts ((Trc.parse (Trc.format l)).1) l)) rfl rfl) rfl rfl rfl ?_
      exact o_sub (Sub.cons rfl (Sub.skip rfl (Sub.skip rfl (Sub.skip rfl (Sub.skip rfl (Sub.skip rfl (Sub.refl _))))))) hk
    · intro hb7 hk
      refine o_guard_no rfl 25 rfl rfl rfl rfl rfl ?_
      refine o_guard_no rfl 25 rfl rfl rfl rfl rfl ?_
      refine o_guard_no rfl 25 rfl rfl rfl rfl rfl ?_
      refine o_pure (p_pick_false (v := .bool false) rfl rfl) rfl rfl rfl ?_
      exact o_sub (Sub.cons rfl (Sub.skip rfl (Sub.skip rfl (Sub.skip rfl (Sub.skip rfl (Sub.skip rfl (Sub.refl _))))))) hk
    refine o_pure (p_assign (v := .bool ((((Trc.parse (Trc.format l)).2) == 0) && (Ref.sameInts ((Trc.parse (Trc.format l)).1) l))) rfl) rfl rfl rfl ?_
    refine o_nil ?_
    refine q_then ?_
    refine c_ret ?_
    have hr0 : (((((Trc.parse (Trc.format l)).2) == 0) && (Ref.sameInts ((Trc.parse (Trc.format l)).1) l)) : Bool) = true := by
      first | exact Trc.rt1 hx | exact Trc.rt2 hx
    refine q_end0 (v := .bool ((((Trc.parse (Trc.format l)).2) == 0) && (Ref.sameInts ((Trc.parse (Trc.format l)).1) l))) (rt1 rfl (r_tmp rfl)) (i := 1) rfl ?_
    exact (by have hcc := congrArg (fun (y0 : Bool) => (.bool y0 : Value)) hr0; exact hcc)

set_option maxHeartbeats 8000000 in
set_option maxRecDepth 100000 in
theorem traceCompact_ok (s : ByteArray) : Fn0 Tryd.prog 5 [.string s] (fun w => MaxW w ∧ TabW w) (.bool true) := by
  refine fn0 (nt := 57) (F0 := [(0, .string s)]) Tryd.func5 rfl Tryd.ntmps5 rfl rfl (fun w0 hpre => ?_)
  obtain ⟨hMaxW, hTabW⟩ := hpre
  refine c_seq ?_
  refine c_region ?_
  refine o_pure (p_assign (v := .bool false) rfl) rfl rfl rfl ?_
  refine o_nil ?_
  refine q_then ?_
  refine c_seq ?_
  refine c_region ?_
  refine o_pure (p_move (v := .string s) rfl) rfl rfl rfl ?_
  refine o_call0 (v := .tuple #[.string (Trc.compact s), .int .i64 ((Trc.parse s).2)]) rfl (tcompact_ok s) hf9 (fun w hw => ⟨pre_base (i := 0) rfl MaxW_st hMaxW w hw, pre_base (i := 0) rfl TabW_st hTabW w hw⟩) rfl ?_
  refine o_pure (p_move (v := .tuple #[.string (Trc.compact s), .int .i64 ((Trc.parse s).2)]) rfl) rfl rfl rfl ?_
  refine o_pure (p_extract (vs := [.string (Trc.compact s), .int .i64 ((Trc.parse s).2)]) (v := .string (Trc.compact s)) rfl rfl) rfl rfl rfl ?_
  refine o_pure (p_extract (vs := [.string (Trc.compact s), .int .i64 ((Trc.parse s).2)]) (v := .int .i64 ((Trc.parse s).2)) rfl rfl) rfl rfl rfl ?_
  refine o_pure (p_assign (v := .string (Trc.compact s)) rfl) rfl rfl rfl ?_
  refine o_pure (p_assign (v := .int .i64 ((Trc.parse s).2)) rfl) rfl rfl rfl ?_
  refine o_nil ?_
  refine q_then ?_
  refine c_seq ?_
  refine c_seq ?_
  refine c_region ?_
  refine o_call0 (v := .bool true) rfl (linesBegun_ok ) hf13 (fun w hw => ⟨pre_base (i := 0) rfl MaxW_st hMaxW w hw, pre_base (i := 0) rfl TabW_st hTabW w hw⟩) rfl ?_
  refine o_pure (p_not (b := true) rfl) rfl rfl rfl ?_
  refine o_nil ?_
  refine q_then ?_
  refine c_false rfl ?_
  refine c_skip ?_
  refine q_then ?_
  refine c_seq ?_
  refine c_seq ?_
  refine c_region ?_
  refine o_pure (p_move (v := .int .i64 ((Trc.parse s).2)) rfl) rfl rfl rfl ?_
  refine o_pure (p_ne (p := ((Trc.parse s).2)) (q := 0) rfl rfl) rfl rfl rfl ?_
  refine o_nil ?_
  refine q_then ?_
  refine c_cond (b := (((Trc.parse s).2) != 0)) rfl (fun hc1 => ?_) (fun hc1 => ?_)
  · simp only [bne_iff_ne, ne_eq] at hc1
    have hx := hc1
    refine c_seq ?_
    refine c_region ?_
    refine o_pure (p_move (v := .string (Trc.compact s)) rfl) rfl rfl rfl ?_
    refine o_pure (p_eqStr (s := (Trc.compact s)) (t := (ByteArray.mk #[])) rfl rfl) rfl rfl rfl ?_
    refine o_pure (p_assign (v := .bool (decide ((Trc.compact s) = (ByteArray.mk #[])))) rfl) rfl rfl rfl ?_
    refine o_nil ?_
    refine q_then ?_
    refine c_ret ?_
    refine q_then_ret ?_
    have hr0 : (decide ((Trc.compact s) = (ByteArray.mk #[])) : Bool) = true := by
      first | exact Trc.tc1 hx | exact Trc.tc2 hx
    refine q_end0 (v := .bool (decide ((Trc.compact s) = (ByteArray.mk #[])))) (rt1 rfl (r_tmp rfl)) (i := 0) rfl ?_
    exact (by have hcc := congrArg (fun (y0 : Bool) => (.bool y0 : Value)) hr0; exact hcc)
  · simp only [bne_eq_false_iff_eq] at hc1
    have hx := hc1
    refine c_skip ?_
    refine q_then ?_
    refine c_seq ?_
    refine c_region ?_
    refine o_pure (p_move (v := .string s) rfl) rfl rfl rfl ?_
    refine o_callM rfl (tparse_ok s) hf8 (fun w hw => pre_base (i := 0) rfl MaxW_st hMaxW w hw) rfl (fun _ _ _ _ ha hA => SlO.agree ha hA) ?_
    rintro ⟨a4, c5⟩ S2
    refine o_know (fun w hw => own_len (i := 0) (T := tInt) hw rfl) (fun hlr6 => ?_)
    refine o_pure (p_move (v := .tuple #[.slice a4 ((Trc.parse s).1).length c5, .int .i64 ((Trc.parse s).2)]) rfl) rfl rfl rfl ?_
    refine o_pure (p_extract (vs := [.slice a4 ((Trc.parse s).1).length c5, .int .i64 ((Trc.parse s).2)]) (v := .slice a4 ((Trc.parse s).1).length c5) rfl rfl) rfl rfl rfl ?_
    refine o_pure (p_extract (vs := [.slice a4 ((Trc.parse s).1).length c5, .int .i64 ((Trc.parse s).2)]) (v := .int .i64 ((Trc.parse s).2)) rfl rfl) rfl rfl rfl ?_
    refine o_pure (p_assign (v := .slice a4 ((Trc.parse s).1).length c5) rfl) rfl rfl rfl ?_
    refine o_pure (p_assign (v := .int .i64 ((Trc.parse s).2)) rfl) rfl rfl rfl ?_
    refine o_nil ?_
    refine q_then ?_
    refine c_seq ?_
    refine c_region ?_
    refine o_pure (p_move (v := .string (Trc.compact s)) rfl) rfl rfl rfl ?_
    refine o_callM rfl (tparse_ok (Trc.compact s)) hf8 (fun w hw => pre_base (i := 1) rfl MaxW_st hMaxW w hw) rfl (fun _ _ _ _ ha hA => SlO.agree ha hA) ?_
    rintro ⟨a9, c10⟩ S7
    refine o_know (fun w hw => own_len (i := 0) (T := tInt) hw rfl) (fun hlr11 => ?_)
    refine o_pure (p_move (v := .tuple #[.slice a9 ((Trc.parse (Trc.compact s)).1).length c10, .int .i64 ((Trc.parse (Trc.compact s)).2)]) rfl) rfl rfl rfl ?_
    refine o_pure (p_extract (vs := [.slice a9 ((Trc.parse (Trc.compact s)).1).length c10, .int .i64 ((Trc.parse (Trc.compact s)).2)]) (v := .slice a9 ((Trc.parse (Trc.compact s)).1).length c10) rfl rfl) rfl rfl rfl ?_
    refine o_pure (p_extract (vs := [.slice a9 ((Trc.parse (Trc.compact s)).1).length c10, .int .i64 ((Trc.parse (Trc.compact s)).2)]) (v := .int .i64 ((Trc.parse (Trc.compact s)).2)) rfl rfl) rfl rfl rfl ?_
    refine o_pure (p_assign (v := .slice a9 ((Trc.parse (Trc.compact s)).1).length c10) rfl) rfl rfl rfl ?_
    refine o_pure (p_assign (v := .int .i64 ((Trc.parse (Trc.compact s)).2)) rfl) rfl rfl rfl ?_
    refine o_nil ?_
    refine q_then ?_
    refine c_seq ?_
    refine c_region ?_
    refine o_pure (p_move (v := .string (Trc.compact s)) rfl) rfl rfl rfl ?_
    refine o_call0 (v := .tuple #[.string (Trc.compact (Trc.compact s)), .int .i64 ((Trc.parse (Trc.compact s)).2)]) rfl (tcompact_ok (Trc.compact s)) hf9 (fun w hw => ⟨pre_base (i := 2) rfl MaxW_st hMaxW w hw, pre_base (i := 2) rfl TabW_st hTabW w hw⟩) rfl ?_
    refine o_pure (p_move (v := .tuple #[.string (Trc.compact (Trc.compact s)), .int .i64 ((Trc.parse (Trc.compact s)).2)]) rfl) rfl rfl rfl ?_
    refine o_pure (p_extract (vs := [.string (Trc.compact (Trc.compact s)), .int .i64 ((Trc.parse (Trc.compact s)).2)]) (v := .string (Trc.compact (Trc.compact s))) rfl rfl) rfl rfl rfl ?_
    refine o_pure (p_extract (vs := [.string (Trc.compact (Trc.compact s)), .int .i64 ((Trc.parse (Trc.compact s)).2)]) (v := .int .i64 ((Trc.parse (Trc.compact s)).2)) rfl rfl) rfl rfl rfl ?_
    refine o_pure (p_assign (v := .string (Trc.compact (Trc.compact s))) rfl) rfl rfl rfl ?_
    refine o_pure (p_assign (v := .int .i64 ((Trc.parse (Trc.compact s)).2)) rfl) rfl rfl rfl ?_
    refine o_nil ?_
    refine q_then ?_
    refine c_seq ?_
    refine c_region ?_
    refine o_pure (p_move (v := .int .i64 ((Trc.parse s).2)) rfl) rfl rfl rfl ?_
    refine o_pure (p_eq (p := ((Trc.parse s).2)) (q := 0) rfl rfl) rfl rfl rfl ?_
    refine o_pure (p_move (v := .bool (((Trc.parse s).2) == 0)) rfl) rfl rfl rfl ?_
    refine o_and (p := 42) 3 (((Trc.parse (Trc.compact s)).2) == 0) ?_ ?_ ?_
    · intro hb12 hk
      simp only [beq_iff_eq] at hb12
      refine o_unguard 39 rfl rfl ?_
      refine o_pure (p_move (v := .int .i64 ((Trc.parse (Trc.compact s)).2)) rfl) rfl rfl rfl ?_
      refine o_unguard 39 rfl rfl ?_
      refine o_pure (p_eq (p := ((Trc.parse (Trc.compact s)).2)) (q := 0) rfl rfl) rfl rfl rfl ?_
      refine o_pure (p_pick_true (u := .bool (((Trc.parse (Trc.compact s)).2) == 0)) rfl rfl) rfl rfl rfl ?_
      exact o_sub (Sub.cons rfl (Sub.skip rfl (Sub.skip rfl (Sub.skip rfl (Sub.skip rfl (Sub.refl _)))))) hk
    · intro hb12 hk
      refine o_guard_no rfl 39 rfl rfl rfl rfl rfl ?_
      refine o_guard_no rfl 39 rfl rfl rfl rfl rfl ?_
      refine o_pure (p_pick_false (v := .bool false) rfl rfl) rfl rfl rfl ?_
      exact o_sub (Sub.cons rfl (Sub.skip rfl (Sub.skip rfl (Sub.skip rfl (Sub.skip rfl (Sub.refl _)))))) hk
    refine o_pure (p_move (v := .bool ((((Trc.parse s).2) == 0) && (((Trc.parse (Trc.compact s)).2) == 0))) rfl) rfl rfl rfl ?_
    refine o_and (p := 47) 4 (Ref.sameInts ((Trc.parse s).1) ((Trc.parse (Trc.compact s)).1)) ?_ ?_ ?_
    · intro hb13 hk
      simp only [Bool.and_eq_true, beq_iff_eq] at hb13
      refine o_unguard 43 rfl rfl ?_
      refine o_pure (p_move (v := .slice a4 ((Trc.parse s).1).length c5) rfl) rfl rfl rfl ?_
      refine o_unguard 43 rfl rfl ?_
      refine o_pure (p_move (v := .slice a9 ((Trc.parse (Trc.compact s)).1).length c10) rfl) rfl rfl rfl ?_
      refine o_unguard 43 rfl rfl ?_
      refine o_call0 (v := .bool (Ref.sameInts ((Trc.parse s).1) ((Trc.parse (Trc.compact s)).1))) rfl (sameInts_ok ((Trc.parse s).1) a4 c5 ((Trc.parse (Trc.compact s)).1) a9 c10) hf14 (fun w hw => ⟨(rd_own (i := 1) rfl) w hw, (rd_own (i := 0) rfl) w hw⟩) rfl ?_
      refine o_pure (p_pick_true (u := .bool (Ref.sameInts ((Trc.parse s).1) ((Trc.parse (Trc.compact s)).1))) rfl rfl) rfl rfl rfl ?_
      exact o_sub (Sub.cons rfl (Sub.skip rfl (Sub.skip rfl (Sub.skip rfl (Sub.skip rfl (Sub.skip rfl (Sub.refl _))))))) hk
    · intro hb13 hk
      refine o_guard_no rfl 43 rfl rfl rfl rfl rfl ?_
      refine o_guard_no rfl 43 rfl rfl rfl rfl rfl ?_
      refine o_guard_no rfl 43 rfl rfl rfl rfl rfl ?_
      refine o_pure (p_pick_false (v := .bool false) rfl rfl) rfl rfl rfl ?_
      exact o_sub (Sub.cons rfl (Sub.skip rfl (Sub.skip rfl (Sub.skip rfl (Sub.skip rfl (Sub.skip rfl (Sub.refl _))))))) hk
    refine o_pure (p_move (v := .bool (((((Trc.parse s).2) == 0) && (((Trc.parse (Trc.compact s)).2) == 0)) && (Ref.sameInts ((Trc.parse s).1) ((Trc.parse (Trc.compact s)).1)))) rfl) rfl rfl rfl ?_
    refine o_and (p := 51) 3 (((Trc.parse (Trc.compact s)).2) == 0) ?_ ?_ ?_
    · intro hb14 hk
      simp only [Bool.and_eq_true, beq_iff_eq] at hb14
      refine o_unguard 48 rfl rfl ?_
      refine o_pure (p_move (v := .int .i64 ((Trc.parse (Trc.compact s)).2)) rfl) rfl rfl rfl ?_
      refine o_unguard 48 rfl rfl ?_
      refine o_pure (p_eq (p := ((Trc.parse (Trc.compact s)).2)) (q := 0) rfl rfl) rfl rfl rfl ?_
      refine o_pure (p_pick_true (u := .bool (((Trc.parse (Trc.compact s)).2) == 0)) rfl rfl) rfl rfl rfl ?_
      exact o_sub (Sub.cons rfl (Sub.skip rfl (Sub.skip rfl (Sub.skip rfl (Sub.skip rfl (Sub.refl _)))))) hk
    · intro hb14 hk
      refine o_guard_no rfl 48 rfl rfl rfl rfl rfl ?_
      refine o_guard_no rfl 48 rfl rfl rfl rfl rfl ?_
      refine o_pure (p_pick_false (v := .bool false) rfl rfl) rfl rfl rfl ?_
      exact o_sub (Sub.cons rfl (Sub.skip rfl (Sub.skip rfl (Sub.skip rfl (Sub.skip rfl (Sub.refl _)))))) hk
    refine o_pure (p_move (v := .bool ((((((Trc.parse s).2) == 0) && (((Trc.parse (Trc.compact s)).2) == 0)) && (Ref.sameInts ((Trc.parse s).1) ((Trc.parse (Trc.compact s)).1))) && (((Trc.parse (Trc.compact s)).2) == 0))) rfl) rfl rfl rfl ?_
    refine o_and (p := 56) 4 (decide ((Trc.compact (Trc.compact s)) = (Trc.compact s))) ?_ ?_ ?_
    · intro hb15 hk
      simp only [Bool.and_eq_true, beq_iff_eq] at hb15
      refine o_unguard 52 rfl rfl ?_
      refine o_pure (p_move (v := .string (Trc.compact (Trc.compact s))) rfl) rfl rfl rfl ?_
      refine o_unguard 52 rfl rfl ?_
      refine o_pure (p_move (v := .string (Trc.compact s)) rfl) rfl rfl rfl ?_
      refine o_unguard 52 rfl rfl ?_
      refine o_pure (p_eqStr (s := (Trc.compact (Trc.compact s))) (t := (Trc.compact s)) rfl rfl) rfl rfl rfl ?_
      refine o_pure (p_pick_true (u := .bool (decide ((Trc.compact (Trc.compact s)) = (Trc.compact s)))) rfl rfl) rfl rfl rfl ?_
      exact o_sub (Sub.cons rfl (Sub.skip rfl (Sub.skip rfl (Sub.skip rfl (Sub.skip rfl (Sub.skip rfl (Sub.refl _))))))) hk
    · intro hb15 hk
      refine o_guard_no rfl 52 rfl rfl rfl rfl rfl ?_
      refine o_guard_no rfl 52 rfl rfl rfl rfl rfl ?_
      refine o_guard_no rfl 52 rfl rfl rfl rfl rfl ?_
      refine o_pure (p_pick_false (v := .bool false) rfl rfl) rfl rfl rfl ?_
      exact o_sub (Sub.cons rfl (Sub.skip rfl (Sub.skip rfl (Sub.skip rfl (Sub.skip rfl (Sub.skip rfl (Sub.refl _))))))) hk
    refine o_pure (p_assign (v := .bool (((((((Trc.parse s).2) == 0) && (((Trc.parse (Trc.compact s)).2) == 0)) && (Ref.sameInts ((Trc.parse s).1) ((Trc.parse (Trc.compact s)).1))) && (((Trc.parse (Trc.compact s)).2) == 0)) && decide ((Trc.compact (Trc.compact s)) = (Trc.compact s)))) rfl) rfl rfl rfl ?_
    refine o_nil ?_
    refine q_then ?_
    refine c_ret ?_
    have hr0 : ((((((((Trc.parse s).2) == 0) && (((Trc.parse (Trc.compact s)).2) == 0)) && (Ref.sameInts ((Trc.parse s).1) ((Trc.parse (Trc.compact s)).1))) && (((Trc.parse (Trc.compact s)).2) == 0)) && decide ((Trc.compact (Trc.compact s)) = (Trc.compact s))) : Bool) = true := by
      first | exact Trc.tc1 hx | exact Trc.tc2 hx
    refine q_end0 (v := .bool (((((((Trc.parse s).2) == 0) && (((Trc.parse (Trc.compact s)).2) == 0)) && (Ref.sameInts ((Trc.parse s).1) ((Trc.parse (Trc.compact s)).1))) && (((Trc.parse (Trc.compact s)).2) == 0)) && decide ((Trc.compact (Trc.compact s)) = (Trc.compact s)))) (rt1 rfl (r_tmp rfl)) (i := 2) rfl ?_
    exact (by have hcc := congrArg (fun (y0 : Bool) => (.bool y0 : Value)) hr0; exact hcc)

set_option maxHeartbeats 8000000 in
set_option maxRecDepth 100000 in
theorem traceJoins_ok (s : ByteArray) (t_ : ByteArray) : Fn0 Tryd.prog 6 [.string s, .string t_] (fun w => s.size ≤ 140737488355328 ∧ t_.size ≤ 140737488355328 ∧ MaxW w ∧ TabW w) (.bool true) := by
  refine fn0 (nt := 72) (F0 := [(0, .string s), (1, .string t_)]) Tryd.func6 rfl Tryd.ntmps6 rfl rfl (fun w0 hpre => ?_)
  obtain ⟨hs, ht_, hMaxW, hTabW⟩ := hpre
  have s32 : (ByteArray.mk #[32]).size = 1 := rfl
  have hp1 := Trc.parse_len (s := s)
  have hp2 := Trc.parse_len (s := t_)
  refine c_seq ?_
  refine c_region ?_
  refine o_pure (p_assign (v := .bool false) rfl) rfl rfl rfl ?_
  refine o_nil ?_
  refine q_then ?_
  refine c_seq ?_
  refine c_region ?_
  refine o_pure (p_move (v := .string s) rfl) rfl rfl rfl ?_
  refine o_callM rfl (tparse_ok s) hf8 (fun w hw => pre_base (i := 0) rfl MaxW_st hMaxW w hw) rfl (fun _ _ _ _ ha hA => SlO.agree ha hA) ?_
  rintro ⟨a3, c4⟩ S1
  refine o_know (fun w hw => own_len (i := 0) (T := tInt) hw rfl) (fun hlr5 => ?_)
  refine o_pure (p_move (v := .tuple #[.slice a3 ((Trc.parse s).1).length c4, .int .i64 ((Trc.parse s).2)]) rfl) rfl rfl rfl ?_
  refine o_pure (p_extract (vs := [.slice a3 ((Trc.parse s).1).length c4, .int .i64 ((Trc.parse s).2)]) (v := .slice a3 ((Trc.parse s).1).length c4) rfl rfl) rfl rfl rfl ?_
  refine o_pure (p_extract (vs := [.slice a3 ((Trc.parse s).1).length c4, .int .i64 ((Trc.parse s).2)]) (v := .int .i64 ((Trc.parse s).2)) rfl rfl) rfl rfl rfl ?_
  refine o_pure (p_assign (v := .slice a3 ((Trc.parse s).1).length c4) rfl) rfl rfl rfl ?_
  refine o_pure (p_assign (v := .int .i64 ((Trc.parse s).2)) rfl) rfl rfl rfl ?_
  refine o_nil ?_
  refine q_then ?_
  refine c_seq ?_
  refine c_region ?_
  refine o_pure (p_move (v := .string t_) rfl) rfl rfl rfl ?_
  refine o_callM rfl (tparse_ok t_) hf8 (fun w hw => pre_base (i := 1) rfl MaxW_st hMaxW w hw) rfl (fun _ _ _ _ ha hA => SlO.agree ha hA) ?_
  rintro ⟨a8, c9⟩ S6
  refine o_know (fun w hw => own_len (i := 0) (T := tInt) hw rfl) (fun hlr10 => ?_)
  refine o_pure (p_move (v := .tuple #[.slice a8 ((Trc.parse t_).1).length c9, .int .i64 ((Trc.parse t_).2)]) rfl) rfl rfl rfl ?_
  refine o_pure (p_extract (vs := [.slice a8 ((Trc.parse t_).1).length c9, .int .i64 ((Trc.parse t_).2)]) (v := .slice a8 ((Trc.parse t_).1).length c9) rfl rfl) rfl rfl rfl ?_
  refine o_pure (p_extract (vs := [.slice a8 ((Trc.parse t_).1).length c9, .int .i64 ((Trc.parse t_).2)]) (v := .int .i64 ((Trc.parse t_).2)) rfl rfl) rfl rfl rfl ?_
  refine o_pure (p_assign (v := .slice a8 ((Trc.parse t_).1).length c9) rfl) rfl rfl rfl ?_
  refine o_pure (p_assign (v := .int .i64 ((Trc.parse t_).2)) rfl) rfl rfl rfl ?_
  refine o_nil ?_
  refine q_then ?_
  refine c_seq ?_
  refine c_region ?_
  refine o_pure (p_move (v := .string s) rfl) rfl rfl rfl ?_
  refine o_pure (p_addStr (s := s) (t := (ByteArray.mk #[32])) rfl rfl (by first | omega | (simp only [ByteArray.size_append]; omega))) rfl rfl rfl ?_
  refine o_pure (p_move (v := .string t_) rfl) rfl rfl rfl ?_
  refine o_pure (p_addStr (s := (s ++ (ByteArray.mk #[32]))) (t := t_) rfl rfl (by first | omega | (simp only [ByteArray.size_append]; omega))) rfl rfl rfl ?_
  refine o_callM rfl (tparse_ok ((s ++ (ByteArray.mk #[32])) ++ t_)) hf8 (fun w hw => pre_base (i := 2) rfl MaxW_st hMaxW w hw) rfl (fun _ _ _ _ ha hA => SlO.agree ha hA) ?_
  rintro ⟨a13, c14⟩ S11
  refine o_know (fun w hw => own_len (i := 0) (T := tInt) hw rfl) (fun hlr15 => ?_)
  refine o_pure (p_move (v := .tuple #[.slice a13 ((Trc.parse ((s ++ (ByteArray.mk #[32])) ++ t_)).1).length c14, .int .i64 ((Trc.parse ((s ++ (ByteArray.mk #[32])) ++ t_)).2)]) rfl) rfl rfl rfl ?_
  refine o_pure (p_extract (vs := [.slice a13 ((Trc.parse ((s ++ (ByteArray.mk #[32])) ++ t_)).1).length c14, .int .i64 ((Trc.parse ((s ++ (ByteArray.mk #[32])) ++ t_)).2)]) (v := .slice a13 ((Trc.parse ((s ++ (ByteArray.mk #[32])) ++ t_)).1).length c14) rfl rfl) rfl rfl rfl ?_
  refine o_pure (p_extract (vs := [.slice a13 ((Trc.parse ((s ++ (ByteArray.mk #[32])) ++ t_)).1).length c14, .int .i64 ((Trc.parse ((s ++ (ByteArray.mk #[32])) ++ t_)).2)]) (v := .int .i64 ((Trc.parse ((s ++ (ByteArray.mk #[32])) ++ t_)).2)) rfl rfl) rfl rfl rfl ?_
  refine o_pure (p_assign (v := .slice a13 ((Trc.parse ((s ++ (ByteArray.mk #[32])) ++ t_)).1).length c14) rfl) rfl rfl rfl ?_
  refine o_pure (p_assign (v := .int .i64 ((Trc.parse ((s ++ (ByteArray.mk #[32])) ++ t_)).2)) rfl) rfl rfl rfl ?_
  refine o_nil ?_
  refine q_then ?_
  refine c_seq ?_
  refine c_seq ?_
  refine c_region ?_
  refine o_call0 (v := .bool true) rfl (linesBegun_ok ) hf13 (fun w hw => ⟨pre_base (i := 3) rfl MaxW_st hMaxW w hw, pre_base (i := 3) rfl TabW_st hTabW w hw⟩) rfl ?_
  refine o_pure (p_not (b := true) rfl) rfl rfl rfl ?_
  refine o_nil ?_
  refine q_then ?_
  refine c_false rfl ?_
  refine c_skip ?_
  refine q_then ?_
  refine c_seq ?_
  refine c_seq ?_
  refine c_region ?_
  refine o_pure (p_move (v := .int .i64 ((Trc.parse s).2)) rfl) rfl rfl rfl ?_
  refine o_pure (p_ne (p := ((Trc.parse s).2)) (q := 0) rfl rfl) rfl rfl rfl ?_
  refine o_pure (p_move (v := .bool (((Trc.parse s).2) != 0)) rfl) rfl rfl rfl ?_
  refine o_or (p := 36) 3 (((Trc.parse t_).2) != 0) ?_ ?_ ?_
  · intro hb16 hk
    simp only [bne_eq_false_iff_eq] at hb16
    refine o_unguard 33 rfl rfl ?_
    refine o_pure (p_move (v := .int .i64 ((Trc.parse t_).2)) rfl) rfl rfl rfl ?_
    refine o_unguard 33 rfl rfl ?_
    refine o_pure (p_ne (p := ((Trc.parse t_).2)) (q := 0) rfl rfl) rfl rfl rfl ?_
    refine o_pure (p_pick_false (v := .bool (((Trc.parse t_).2) != 0)) rfl rfl) rfl rfl rfl ?_
    exact o_sub (Sub.cons rfl (Sub.skip rfl (Sub.skip rfl (Sub.skip rfl (Sub.skip rfl (Sub.refl _)))))) hk
  · intro hb16 hk
    refine o_guard_no rfl 33 rfl rfl rfl rfl rfl ?_
    refine o_guard_no rfl 33 rfl rfl rfl rfl rfl ?_
    refine o_pure (p_pick_true (u := .bool true) rfl rfl) rfl rfl rfl ?_
    exact o_sub (Sub.cons rfl (Sub.skip rfl (Sub.skip rfl (Sub.skip rfl (Sub.skip rfl (Sub.refl _)))))) hk
  refine o_pure (p_move (v := .bool ((((Trc.parse s).2) != 0) || (((Trc.parse t_).2) != 0))) rfl) rfl rfl rfl ?_
  refine o_or (p := 40) 3 (decide (s = (ByteArray.mk #[]))) ?_ ?_ ?_
  · intro hb17 hk
    simp only [Bool.or_eq_false_iff, bne_eq_false_iff_eq] at hb17
    refine o_unguard 37 rfl rfl ?_
    refine o_pure (p_move (v := .string s) rfl) rfl rfl rfl ?_
    refine o_unguard 37 rfl rfl ?_
    refine o_pure (p_eqStr (s := s) (t := (ByteArray.mk #[])) rfl rfl) rfl rfl rfl ?_
    refine o_pure (p_pick_false (v := .bool (decide (s = (ByteArray.mk #[])))) rfl rfl) rfl rfl rfl ?_
    exact o_sub (Sub.cons rfl (Sub.skip rfl (Sub.skip rfl (Sub.skip rfl (Sub.skip rfl (Sub.refl _)))))) hk
  · intro hb17 hk
    refine o_guard_no rfl 37 rfl rfl rfl rfl rfl ?_
    refine o_guard_no rfl 37 rfl rfl rfl rfl rfl ?_
    refine o_pure (p_pick_true (u := .bool true) rfl rfl) rfl rfl rfl ?_
    exact o_sub (Sub.cons rfl (Sub.skip rfl (Sub.skip rfl (Sub.skip rfl (Sub.skip rfl (Sub.refl _)))))) hk
  refine o_pure (p_move (v := .bool (((((Trc.parse s).2) != 0) || (((Trc.parse t_).2) != 0)) || decide (s = (ByteArray.mk #[])))) rfl) rfl rfl rfl ?_
  refine o_or (p := 44) 3 (decide (t_ = (ByteArray.mk #[]))) ?_ ?_ ?_
  · intro hb18 hk
    simp only [Bool.or_eq_false_iff, bne_eq_false_iff_eq, decide_eq_false_iff_not] at hb18
    refine o_unguard 41 rfl rfl ?_
    refine o_pure (p_move (v := .string t_) rfl) rfl rfl rfl ?_
    refine o_unguard 41 rfl rfl ?_
    refine o_pure (p_eqStr (s := t_) (t := (ByteArray.mk #[])) rfl rfl) rfl rfl rfl ?_
    refine o_pure (p_pick_false (v := .bool (decide (t_ = (ByteArray.mk #[])))) rfl rfl) rfl rfl rfl ?_
    exact o_sub (Sub.cons rfl (Sub.skip rfl (Sub.skip rfl (Sub.skip rfl (Sub.skip rfl (Sub.refl _)))))) hk
  · intro hb18 hk
    refine o_guard_no rfl 41 rfl rfl rfl rfl rfl ?_
    refine o_guard_no rfl 41 rfl rfl rfl rfl rfl ?_
    refine o_pure (p_pick_true (u := .bool true) rfl rfl) rfl rfl rfl ?_
    exact o_sub (Sub.cons rfl (Sub.skip rfl (Sub.skip rfl (Sub.skip rfl (Sub.skip rfl (Sub.refl _)))))) hk
  refine o_nil ?_
  refine q_then ?_
  refine c_cond (b := ((((((Trc.parse s).2) != 0) || (((Trc.parse t_).2) != 0)) || decide (s = (ByteArray.mk #[]))) || decide (t_ = (ByteArray.mk #[])))) rfl (fun hc19 => ?_) (fun hc19 => ?_)
  · simp only [Bool.or_eq_true, bne_iff_ne, ne_eq, decide_eq_true_eq] at hc19
    refine c_seq ?_
    refine c_region ?_
    refine o_pure (p_assign (v := .bool true) rfl) rfl rfl rfl ?_
    refine o_nil ?_
    refine q_then ?_
    refine c_ret ?_
    refine q_then_ret ?_
    refine q_end0 (v := .bool true) (rt1 rfl (r_tmp rfl)) (i := 3) rfl ?_
    exact rfl
  · simp only [Bool.or_eq_false_iff, bne_eq_false_iff_eq, decide_eq_false_iff_not] at hc19
    have hx := hc19
    refine c_skip ?_
    refine q_then ?_
    refine c_seq ?_
    refine c_seq ?_
    refine c_region ?_
    refine o_pure (p_move (v := .slice a3 ((Trc.parse s).1).length c4) rfl) rfl rfl rfl ?_
    refine o_pure (p_len_slice (len := ((Trc.parse s).1).length) rfl rfl Tryd.underlying22) rfl rfl rfl ?_
    refine o_pure (p_move (v := .slice a8 ((Trc.parse t_).1).length c9) rfl) rfl rfl rfl ?_
    refine o_pure (p_len_slice (len := ((Trc.parse t_).1).length) rfl rfl Tryd.underlying22) rfl rfl rfl ?_
    refine o_pure (p_addb (p := (((Trc.parse s).1).length : Int)) (q := (((Trc.parse t_).1).length : Int)) rfl rfl (by omega)) rfl rfl rfl ?_
    refine o_pure (p_gt (p := ((((Trc.parse s).1).length : Int) + (((Trc.parse t_).1).length : Int))) (q := 200) rfl rfl) rfl rfl rfl ?_
    refine o_pure (p_move (v := .bool (decide (200 < ((((Trc.parse s).1).length : Int) + (((Trc.parse t_).1).length : Int))))) rfl) rfl rfl rfl ?_
    refine o_or (p := 58) 7 (decide (2000 ≤ ((s.size : Int) + (t_.size : Int)))) ?_ ?_ ?_
    · intro hb20 hk
      simp only [decide_eq_false_iff_not, Int.not_lt] at hb20
      refine o_unguard 51 rfl rfl ?_
      refine o_pure (p_move (v := .string s) rfl) rfl rfl rfl ?_
      refine o_unguard 51 rfl rfl ?_
      refine o_pure (p_len_string rfl rfl Tryd.underlying9) rfl rfl rfl ?_
      refine o_unguard 51 rfl rfl ?_
      refine o_pure (p_move (v := .string t_) rfl) rfl rfl rfl ?_
      refine o_unguard 51 rfl rfl ?_
      refine o_pure (p_len_string rfl rfl Tryd.underlying9) rfl rfl rfl ?_
      refine o_unguard 51 rfl rfl ?_
      refine o_pure (p_addb (p := (s.size : Int)) (q := (t_.size : Int)) rfl rfl (by omega)) rfl rfl rfl ?_
      refine o_unguard 51 rfl rfl ?_
      refine o_pure (p_ge (p := ((s.size : Int) + (t_.size : Int))) (q := 2000) rfl rfl) rfl rfl rfl ?_
      refine o_pure (p_pick_false (v := .bool (decide (2000 ≤ ((s.size : Int) + (t_.size : Int))))) rfl rfl) rfl rfl rfl ?_
      exact o_sub (Sub.cons rfl (Sub.skip rfl (Sub.skip rfl (Sub.skip rfl (Sub.skip rfl (Sub.skip rfl (Sub.skip rfl (Sub.skip rfl (Sub.skip rfl (Sub.refl _)))))))))) hk
    · intro hb20 hk
      refine o_guard_no rfl 51 rfl rfl rfl rfl rfl ?_
      refine o_guard_no rfl 51 rfl rfl rfl rfl rfl ?_
      refine o_guard_no rfl 51 rfl rfl rfl rfl rfl ?_
      refine o_guard_no rfl 51 rfl rfl rfl rfl rfl ?_
      refine o_guard_no rfl 51 rfl rfl rfl rfl rfl ?_
      refine o_guard_no rfl 51 rfl rfl rfl rfl rfl ?_
      refine o_pure (p_pick_true (u := .bool true) rfl rfl) rfl rfl rfl ?_
      exact o_sub (Sub.cons rfl (Sub.skip rfl (Sub.skip rfl (Sub.skip rfl (Sub.skip rfl (Sub.skip rfl (Sub.skip rfl (Sub.skip rfl (Sub.skip rfl (Sub.refl _)))))))))) hk
    refine o_nil ?_
    refine q_then ?_
    refine c_cond (b := (decide (200 < ((((Trc.parse s).1).length : Int) + (((Trc.parse t_).1).length : Int))) || decide (2000 ≤ ((s.size : Int) + (t_.size : Int))))) rfl (fun hc21 => ?_) (fun hc21 => ?_)
    · simp only [Bool.or_eq_true, decide_eq_true_eq] at hc21
      have hz := hc21
      refine c_seq ?_
      refine c_region ?_
      refine o_pure (p_move (v := .int .i64 ((Trc.parse ((s ++ (ByteArray.mk #[32])) ++ t_)).2)) rfl) rfl rfl rfl ?_
      refine o_pure (p_eq (p := ((Trc.parse ((s ++ (ByteArray.mk #[32])) ++ t_)).2)) (q := 2) rfl rfl) rfl rfl rfl ?_
      refine o_pure (p_assign (v := .bool (((Trc.parse ((s ++ (ByteArray.mk #[32])) ++ t_)).2) == 2)) rfl) rfl rfl rfl ?_
      refine o_nil ?_
      refine q_then ?_
      refine c_ret ?_
      refine q_then_ret ?_
      have hr0 : ((((Trc.parse ((s ++ (ByteArray.mk #[32])) ++ t_)).2) == 2) : Bool) = true := by
        first | rfl | exact Trc.tj1 hx hz | exact Trc.tj2 hx hz
      refine q_end0 (v := .bool (((Trc.parse ((s ++ (ByteArray.mk #[32])) ++ t_)).2) == 2)) (rt1 rfl (r_tmp rfl)) (i := 3) rfl ?_
      exact (by have hcc := congrArg (fun (y0 : Bool) => (.bool y0 : Value)) hr0; exact hcc)
    · simp only [Bool.or_eq_false_iff, decide_eq_false_iff_not, Int.not_lt, Int.not_le] at hc21
      have hz := hc21
      refine c_skip ?_
      refine q_then ?_
      refine c_seq ?_
      refine c_region ?_
      refine o_pure (p_move (v := .int .i64 ((Trc.parse ((s ++ (ByteArray.mk #[32])) ++ t_)).2)) rfl) rfl rfl rfl ?_
      refine o_pure (p_eq (p := ((Trc.parse ((s ++ (ByteArray.mk #[32])) ++ t_)).2)) (q := 0) rfl rfl) rfl rfl rfl ?_
      refine o_pure (p_move (v := .bool (((Trc.parse ((s ++ (ByteArray.mk #[32])) ++ t_)).2) == 0)) rfl) rfl rfl rfl ?_
      refine o_and (p := 71) 8 (Ref.sameInts ((Trc.parse ((s ++ (ByteArray.mk #[32])) ++ t_)).1) (((Trc.parse s).1) ++ ((Trc.parse t_).1))) ?_ ?_ ?_
      · intro hb22 hk
        simp only [beq_iff_eq] at hb22
        refine o_unguard 63 rfl rfl ?_
        refine o_pure (p_move (v := .slice a13 ((Trc.parse ((s ++ (ByteArray.mk #[32])) ++ t_)).1).length c14) rfl) rfl rfl rfl ?_
        refine o_unguard 63 rfl rfl ?_
        refine o_buildSlice (m := 0) (T := tInt) (L := []) (vs := []) rfl rfl rfl rfl Tryd.underlying22 sz3 (by decide) ze3 rfl (by decide) rfl (fun S23 a24 => ?_)
        refine o_unguard 63 rfl rfl ?_
        refine o_pure (p_move (v := .slice a3 ((Trc.parse s).1).length c4) rfl) rfl rfl rfl ?_
        refine o_unguard 63 rfl rfl ?_
        refine o_append (i := 0) (L := []) (M := ((Trc.parse s).1)) (T := tInt) rfl rfl rfl (rd_own (i := 3) rfl) Tryd.underlying22 Tryd.underlying22 (by intro k h; cases h) el3 (by intro z; simp [tInt, one1]) (by decide) (by first | omega | (simp only [List.length_cons, List.length_nil]; omega) | (simp only [List.length_append, List.length_cons, List.length_nil, List.length_take, List.length_drop]; omega)) rfl (fun a26 c27 S28 => ?_)
        refine o_unguard 63 rfl rfl ?_
        refine o_pure (p_move (v := .slice a8 ((Trc.parse t_).1).length c9) rfl) rfl rfl rfl ?_
        refine o_unguard 63 rfl rfl ?_
        refine o_append (i := 0) (L := ((Trc.parse s).1)) (M := ((Trc.parse t_).1)) (T := tInt) rfl rfl rfl (rd_own (i := 2) rfl) Tryd.underlying22 Tryd.underlying22 (by intro k h; cases h) el3 (by intro z; simp [tInt, one1]) (by decide) (by first | omega | (simp only [List.length_cons, List.length_nil]; omega) | (simp only [List.length_append, List.length_cons, List.length_nil, List.length_take, List.length_drop]; omega)) rfl (fun a29 c30 S31 => ?_)
        refine o_unguard 63 rfl rfl ?_
        refine o_call0 (v := .bool (Ref.sameInts ((Trc.parse ((s ++ (ByteArray.mk #[32])) ++ t_)).1) (((Trc.parse s).1) ++ ((Trc.parse t_).1)))) rfl (sameInts_ok ((Trc.parse ((s ++ (ByteArray.mk #[32])) ++ t_)).1) a13 c14 (((Trc.parse s).1) ++ ((Trc.parse t_).1)) a29 c30) hf14 (fun w hw => ⟨(rd_own (i := 1) rfl) w hw, (rd_own (i := 0) rfl) w hw⟩) rfl ?_
        refine o_pure (p_pick_true (u := .bool (Ref.sameInts ((Trc.parse ((s ++ (ByteArray.mk #[32])) ++ t_)).1) (((Trc.parse s).1) ++ ((Trc.parse t_).1)))) rfl rfl) rfl rfl rfl ?_
        exact o_sub (Sub.cons rfl (Sub.skip rfl (Sub.skip rfl (Sub.skip rfl (Sub.skip rfl (Sub.skip rfl (Sub.skip rfl (Sub.skip rfl (Sub.skip rfl (Sub.skip rfl (Sub.refl _))))))))))) (o_drop (List.Sublist.cons _ (List.Sublist.cons_cons _ (List.Sublist.cons_cons _ (List.Sublist.cons_cons _ (List.Sublist.cons_cons _ (List.Sublist.slnil)))))) hk)
      · intro hb22 hk
        refine o_guard_no rfl 63 rfl rfl rfl rfl rfl ?_
        refine o_guard_no rfl 63 rfl rfl rfl rfl rfl ?_
        refine o_guard_no rfl 63 rfl rfl rfl rfl rfl ?_
        refine o_guard_no rfl 63 rfl rfl rfl rfl rfl ?_
        refine o_guard_no rfl 63 rfl rfl rfl rfl rfl ?_
        refine o_guard_no rfl 63 rfl rfl rfl rfl rfl ?_
        refine o_guard_no rfl 63 rfl rfl rfl rfl rfl ?_
        refine o_pure (p_pick_false (v := .bool false) rfl rfl) rfl rfl rfl ?_
        exact o_sub (Sub.cons rfl (Sub.skip rfl (Sub.skip rfl (Sub.skip rfl (Sub.skip rfl (Sub.skip rfl (Sub.skip rfl (Sub.skip rfl (Sub.skip rfl (Sub.skip rfl (Sub.refl _))))))))))) hk
      refine o_pure (p_assign (v := .bool ((((Trc.parse ((s ++ (ByteArray.mk #[32])) ++ t_)).2) == 0) && (Ref.sameInts ((Trc.parse ((s ++ (ByteArray.mk #[32])) ++ t_)).1) (((Trc.parse s).1) ++ ((Trc.parse t_).1))))) rfl) rfl rfl rfl ?_
      refine o_nil ?_
      refine q_then ?_
      refine c_ret ?_
      have hr0 : (((((Trc.parse ((s ++ (ByteArray.mk #[32])) ++ t_)).2) == 0) && (Ref.sameInts ((Trc.parse ((s ++ (ByteArray.mk #[32])) ++ t_)).1) (((Trc.parse s).1) ++ ((Trc.parse t_).1)))) : Bool) = true := by
        first | rfl | exact Trc.tj1 hx hz | exact Trc.tj2 hx hz
      refine q_end0 (v := .bool ((((Trc.parse ((s ++ (ByteArray.mk #[32])) ++ t_)).2) == 0) && (Ref.sameInts ((Trc.parse ((s ++ (ByteArray.mk #[32])) ++ t_)).1) (((Trc.parse s).1) ++ ((Trc.parse t_).1))))) (rt1 rfl (r_tmp rfl)) (i := 3) rfl ?_
      exact (by have hcc := congrArg (fun (y0 : Bool) => (.bool y0 : Value)) hr0; exact hcc)
end Go.Proofs.YtgkihbbeimhmbaaDoor
