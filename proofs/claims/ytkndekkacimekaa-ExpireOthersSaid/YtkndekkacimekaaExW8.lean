/- The walks, printed by a program from the translation and a specification. -/
import Derived.Test.YtkndekkacimekaaExF
import Derived.Test.YtkndekkacimekaaExLaw2
import Derived.Test.YtkndekkacimekaaExW5
import Derived.Test.YtkndekkacimekaaExW4
namespace Go.Proofs.Ytkndekkacimekaa
open Go.Sx Go.RowKit
set_option maxHeartbeats 8000000 in
set_option maxRecDepth 100000 in
theorem enext_ok (s : DStore) (as_0 : Option Addr) (cs_0 : Nat) : Fn0 Try.prog 18 [.agg #[.int .i64 s.life, .slice as_0 s.entries.length cs_0]] (fun w => Rd tEntry w as_0 cs_0 s.entries) (.tuple #[.int .i64 (Exp.next s), .int .i64 (Exp.nextErr s)]) := by
  refine fn0 (nt := 22) (F0 := [(0, .agg #[.int .i64 s.life, .slice as_0 s.entries.length cs_0])]) Try.func18 rfl Try.ntmps18 rfl rfl (fun w0 hpre => ?_)
  have hs_0 := hpre
  have hlhs_0 := hs_0.2.1
  refine c_seq ?_
  refine c_region ?_
  refine o_box (v := .agg #[.int .i64 s.life, .slice as_0 s.entries.length cs_0]) rfl rfl (fun B1 => ?_)
  refine o_pure (p_assign (v := .int .i64 0) rfl) rfl rfl rfl ?_
  refine o_pure (p_assign (v := .int .i64 0) rfl) rfl rfl rfl ?_
  refine o_nil ?_
  refine q_then ?_
  refine c_seq ?_
  refine c_region ?_
  refine o_pure (p_load_agg (i := 0) (vs := [.int .i64 s.life, .slice as_0 s.entries.length cs_0]) rfl rfl sh24 rfl rfl) rfl rfl rfl ?_
  refine o_call0 (v := .int .i64 (Exp.check s)) rfl (echeck_ok s as_0 cs_0) hf25 (fun w hw => (rd_base (i := 1) rfl hs_0) w hw) rfl ?_
  refine o_pure (p_assign (v := .int .i64 (Exp.check s)) rfl) rfl rfl rfl ?_
  refine o_nil ?_
  refine q_then ?_
  refine c_seq ?_
  refine c_seq ?_
  refine c_region ?_
  refine o_pure (p_move (v := .int .i64 (Exp.check s)) rfl) rfl rfl rfl ?_
  refine o_pure (p_eq (p := (Exp.check s)) (q := 0) rfl rfl) rfl rfl rfl ?_
  refine o_pure (p_move (v := .bool ((Exp.check s) == 0)) rfl) rfl rfl rfl ?_
  refine o_and (p := 14) 5 ((s.entries.length : Int) == 0) ?_ ?_ ?_
  · intro hb2 hk
    simp only [beq_iff_eq] at hb2
    refine o_unguard 9 rfl rfl ?_
    refine o_pure (p_fieldAddr (B := B1) (j := 0) (j' := 1) rfl fo24_1 rfl) rfl rfl rfl ?_
    refine o_unguard 9 rfl rfl ?_
    refine o_pure (p_load (i := 0) (v := .slice as_0 s.entries.length cs_0) rfl rfl sh22 rfl) rfl rfl rfl ?_
    refine o_unguard 9 rfl rfl ?_
    refine o_pure (p_len_slice (len := s.entries.length) rfl rfl Try.underlying22) rfl rfl rfl ?_
    refine o_unguard 9 rfl rfl ?_
    refine o_pure (p_eq (p := (s.entries.length : Int)) (q := 0) rfl rfl) rfl rfl rfl ?_
    refine o_pure (p_pick_true (u := .bool ((s.entries.length : Int) == 0)) rfl rfl) rfl rfl rfl ?_
    exact o_sub (Sub.cons rfl (Sub.skip rfl (Sub.skip rfl (Sub.skip rfl (Sub.skip rfl (Sub.skip rfl (Sub.skip rfl (Sub.refl _)))))))) hk
  · intro hb2 hk
    refine o_guard_no rfl 9 rfl rfl rfl rfl rfl ?_
    refine o_guard_no rfl 9 rfl rfl rfl rfl rfl ?_
    refine o_guard_no rfl 9 rfl rfl rfl rfl rfl ?_
    refine o_guard_no rfl 9 rfl rfl rfl rfl rfl ?_
    refine o_pure (p_pick_false (v := .bool false) rfl rfl) rfl rfl rfl ?_
    exact o_sub (Sub.cons rfl (Sub.skip rfl (Sub.skip rfl (Sub.skip rfl (Sub.skip rfl (Sub.skip rfl (Sub.skip rfl (Sub.refl _)))))))) hk
  refine o_nil ?_
  refine q_then ?_
  refine c_cond (b := (((Exp.check s) == 0) && ((s.entries.length : Int) == 0))) rfl (fun hc3 => ?_) (fun hc3 => ?_)
  · simp only [Bool.and_eq_true, beq_iff_eq] at hc3
    have hbad := hc3
    refine c_region ?_
    refine o_pure (p_assign (v := .int .i64 5) rfl) rfl rfl rfl ?_
    refine o_nil ?_
    refine q_then ?_
    refine c_seq ?_
    refine c_seq ?_
    refine c_region ?_
    refine o_pure (p_move (v := .int .i64 5) rfl) rfl rfl rfl ?_
    refine o_pure (p_ne (p := 5) (q := 0) rfl rfl) rfl rfl rfl ?_
    refine o_nil ?_
    refine q_then ?_
    refine c_true rfl ?_
    refine c_seq ?_
    refine c_region ?_
    refine o_pure (p_move (v := .int .i64 5) rfl) rfl rfl rfl ?_
    refine o_pure (p_assign (v := .int .i64 0) rfl) rfl rfl rfl ?_
    refine o_pure (p_assign (v := .int .i64 5) rfl) rfl rfl rfl ?_
    refine o_nil ?_
    refine q_then ?_
    refine c_ret ?_
    refine q_then_ret ?_
    obtain ⟨hv1, hv2⟩ : _ ∧ _ := by first | exact Exp.nxt2 (s := s) hbad.1 hbad.2 | exact Exp.nxt1 (s := s) (by assumption) | exact Exp.nxt3 (s := s) (by assumption) hne
    have hr0 : (0 : Int) = (Exp.next s) := by
      exact hv1
    have hr1 : (5 : Int) = (Exp.nextErr s) := by
      exact hv2
    refine q_end0 (v := .tuple #[.int .i64 0, .int .i64 5]) (rt2 rfl (r_tmp rfl) (r_tmp rfl)) (i := 1) rfl ?_
    exact (by have hcc := congr (congrArg (fun (y0 : Int) (y1 : Int) => (.tuple #[.int .i64 y0, .int .i64 y1] : Value)) hr0) hr1; exact hcc)
  · simp only [Bool.and_eq_false_iff, beq_eq_false_iff_ne, ne_eq] at hc3
    have hro := hc3
    refine c_skip ?_
    refine q_then ?_
    refine c_seq ?_
    refine c_seq ?_
    refine c_region ?_
    refine o_pure (p_move (v := .int .i64 (Exp.check s)) rfl) rfl rfl rfl ?_
    refine o_pure (p_ne (p := (Exp.check s)) (q := 0) rfl rfl) rfl rfl rfl ?_
    refine o_nil ?_
    refine q_then ?_
    refine c_cond (b := ((Exp.check s) != 0)) rfl (fun hc4 => ?_) (fun hc4 => ?_)
    · simp only [bne_iff_ne, ne_eq] at hc4
      refine c_seq ?_
      refine c_region ?_
      refine o_pure (p_move (v := .int .i64 (Exp.check s)) rfl) rfl rfl rfl ?_
      refine o_pure (p_assign (v := .int .i64 0) rfl) rfl rfl rfl ?_
      refine o_pure (p_assign (v := .int .i64 (Exp.check s)) rfl) rfl rfl rfl ?_
      refine o_nil ?_
      refine q_then ?_
      refine c_ret ?_
      refine q_then_ret ?_
      obtain ⟨hv1, hv2⟩ : _ ∧ _ := by first | exact Exp.nxt2 (s := s) hbad.1 hbad.2 | exact Exp.nxt1 (s := s) (by assumption) | exact Exp.nxt3 (s := s) (by assumption) hne
      have hr0 : (0 : Int) = (Exp.next s) := by
        exact hv1
      have hr1 : ((Exp.check s) : Int) = (Exp.nextErr s) := by
        exact hv2
      refine q_end0 (v := .tuple #[.int .i64 0, .int .i64 (Exp.check s)]) (rt2 rfl (r_tmp rfl) (r_tmp rfl)) (i := 1) rfl ?_
      exact (by have hcc := congr (congrArg (fun (y0 : Int) (y1 : Int) => (.tuple #[.int .i64 y0, .int .i64 y1] : Value)) hr0) hr1; exact hcc)
    · simp only [bne_eq_false_iff_eq] at hc4
      have hne := hro.resolve_left (fun h => h hc4)
      refine c_skip ?_
      refine q_then ?_
      refine c_seq ?_
      refine c_region ?_
      refine o_pure (p_fieldAddr (B := B1) (j := 0) (j' := 1) rfl fo24_1 rfl) rfl rfl rfl ?_
      refine o_pure (p_load (i := 0) (v := .slice as_0 s.entries.length cs_0) rfl rfl sh22 rfl) rfl rfl rfl ?_
      refine o_call0 (v := .agg #[.int .i64 ((minF (fun (x : DEntry) (y : DEntry) => (cmpI x.till y.till)) s.entries).key), .int .i64 ((minF (fun (x : DEntry) (y : DEntry) => (cmpI x.till y.till)) s.entries).value), .int .i64 ((minF (fun (x : DEntry) (y : DEntry) => (cmpI x.till y.till)) s.entries).till)]) rfl (minFunc_ok s.entries as_0 cs_0 54 [] (fun x y => (cmpI x.till y.till)) (fun _ => True) (fun _ _ _ h => h) (fun x y => enext1_ok x y) hf54 (by omega)) hf53 (fun w hw => ⟨(rd_base (i := 1) rfl hs_0) w hw, trivial⟩) rfl ?_
      refine o_pure (p_field (vs := [.int .i64 ((minF (fun (x : DEntry) (y : DEntry) => (cmpI x.till y.till)) s.entries).key), .int .i64 ((minF (fun (x : DEntry) (y : DEntry) => (cmpI x.till y.till)) s.entries).value), .int .i64 ((minF (fun (x : DEntry) (y : DEntry) => (cmpI x.till y.till)) s.entries).till)]) (v := .int .i64 ((minF (fun (x : DEntry) (y : DEntry) => (cmpI x.till y.till)) s.entries).till)) rfl fc42_2 rfl) rfl rfl rfl ?_
      refine o_pure (p_assign (v := .int .i64 ((minF (fun (x : DEntry) (y : DEntry) => (cmpI x.till y.till)) s.entries).till)) rfl) rfl rfl rfl ?_
      refine o_pure (p_assign (v := .int .i64 0) rfl) rfl rfl rfl ?_
      refine o_nil ?_
      refine q_then ?_
      refine c_ret ?_
      obtain ⟨hv1, hv2⟩ : _ ∧ _ := by first | exact Exp.nxt2 (s := s) hbad.1 hbad.2 | exact Exp.nxt1 (s := s) (by assumption) | exact Exp.nxt3 (s := s) (by assumption) hne
      have hr0 : ((minF (fun (x : DEntry) (y : DEntry) => (cmpI x.till y.till)) s.entries).till : Int) = (Exp.next s) := by
        exact hv1
      have hr1 : (0 : Int) = (Exp.nextErr s) := by
        exact hv2
      refine q_end0 (v := .tuple #[.int .i64 ((minF (fun (x : DEntry) (y : DEntry) => (cmpI x.till y.till)) s.entries).till), .int .i64 0]) (rt2 rfl (r_tmp rfl) (r_tmp rfl)) (i := 1) rfl ?_
      exact (by have hcc := congr (congrArg (fun (y0 : Int) (y1 : Int) => (.tuple #[.int .i64 y0, .int .i64 y1] : Value)) hr0) hr1; exact hcc)
end Go.Proofs.Ytkndekkacimekaa
