/- The walks, printed by a program from the translation and a specification. -/
import Derived.Test.YtkndekkacimekaaExF
import Derived.Test.YtkndekkacimekaaExLaw2
import Derived.Test.YtkndekkacimekaaExW2
namespace Go.Proofs.Ytkndekkacimekaa
open Go.Sx Go.RowKit
set_option maxHeartbeats 8000000 in
set_option maxRecDepth 100000 in
theorem lastCheck_ok (s : DStore) (as_0 : Option Addr) (cs_0 : Nat) : Fn0 Try.prog 19 [.agg #[.int .i64 s.life, .slice as_0 s.entries.length cs_0]] (fun w => Rd tEntry w as_0 cs_0 s.entries) (.int .i64 (Exp.check s)) := by
  refine fn0 (nt := 55) (F0 := [(0, .agg #[.int .i64 s.life, .slice as_0 s.entries.length cs_0])]) Try.func19 rfl Try.ntmps19 rfl rfl (fun w0 hpre => ?_)
  have hs_0 := hpre
  have hlhs_0 := hs_0.2.1
  refine c_seq ?_
  refine c_region ?_
  refine o_box (v := .agg #[.int .i64 s.life, .slice as_0 s.entries.length cs_0]) rfl rfl (fun B1 => ?_)
  refine o_pure (p_assign (v := .int .i64 0) rfl) rfl rfl rfl ?_
  refine o_nil ?_
  refine q_then ?_
  refine c_seq ?_
  refine c_seq ?_
  refine c_region ?_
  refine o_pure (p_fieldAddr (B := B1) (j := 0) (j' := 0) rfl fo24_0 rfl) rfl rfl rfl ?_
  refine o_pure (p_load (i := 0) (v := .int .i64 s.life) rfl rfl sh3 rfl) rfl rfl rfl ?_
  refine o_call0 (v := .bool (Ref.between s.life (1 : Int) (1073741824 : Int))) rfl (between_ok s.life (1 : Int) (1073741824 : Int)) hf56 (fun _ _ => trivial) rfl ?_
  refine o_pure (p_not (b := (Ref.between s.life (1 : Int) (1073741824 : Int))) rfl) rfl rfl rfl ?_
  refine o_nil ?_
  refine q_then ?_
  refine c_cond (b := (!(Ref.between s.life (1 : Int) (1073741824 : Int)))) rfl (fun hc2 => ?_) (fun hc2 => ?_)
  · simp only [Bool.not_eq_true'] at hc2
    have hlife : s.life < 1 ∨ 1073741824 < s.life := by simp [Ref.between] at hc2; omega
    refine c_seq ?_
    refine c_region ?_
    refine o_pure (p_assign (v := .int .i64 3) rfl) rfl rfl rfl ?_
    refine o_nil ?_
    refine q_then ?_
    refine c_ret ?_
    refine q_then_ret ?_
    have hr0 : (3 : Int) = (Exp.check s) := by
      first | exact Exp.chk1 hlife | exact Exp.chk2 hlife (by assumption) | exact Exp.chk3 hlife (by omega) (hI.bad (by omega) heb) | exact Exp.chk3 hlife (by omega) (hI.refLow (j := ((i : Int) - 1).toNat) (by omega) hef (by omega) (by omega) (by omega) (by omega)) | exact Exp.chk3 hlife (by omega) (hI.done (by omega))
    refine q_end0 (v := .int .i64 3) (rt1 rfl (r_tmp rfl)) (i := 1) rfl ?_
    exact (by have hcc := congrArg (fun (y0 : Int) => (.int .i64 y0 : Value)) hr0; exact hcc)
  · simp only [Bool.not_eq_false'] at hc2
    have hlife : 1 ≤ s.life ∧ s.life ≤ 1073741824 := by simpa [Ref.between] using hc2
    refine c_skip ?_
    refine q_then ?_
    refine c_seq ?_
    refine c_seq ?_
    refine c_region ?_
    refine o_pure (p_fieldAddr (B := B1) (j := 0) (j' := 1) rfl fo24_1 rfl) rfl rfl rfl ?_
    refine o_pure (p_load (i := 0) (v := .slice as_0 s.entries.length cs_0) rfl rfl sh22 rfl) rfl rfl rfl ?_
    refine o_pure (p_len_slice (len := s.entries.length) rfl rfl Try.underlying22) rfl rfl rfl ?_
    refine o_pure (p_gt (p := (s.entries.length : Int)) (q := 40) rfl rfl) rfl rfl rfl ?_
    refine o_nil ?_
    refine q_then ?_
    refine c_cond (b := decide (40 < (s.entries.length : Int))) rfl (fun hc3 => ?_) (fun hc3 => ?_)
    · simp only [decide_eq_true_eq] at hc3
      refine c_seq ?_
      refine c_region ?_
      refine o_pure (p_assign (v := .int .i64 2) rfl) rfl rfl rfl ?_
      refine o_nil ?_
      refine q_then ?_
      refine c_ret ?_
      refine q_then_ret ?_
      have hr0 : (2 : Int) = (Exp.check s) := by
        first | exact Exp.chk1 hlife | exact Exp.chk2 hlife (by assumption) | exact Exp.chk3 hlife (by omega) (hI.bad (by omega) heb) | exact Exp.chk3 hlife (by omega) (hI.refLow (j := ((i : Int) - 1).toNat) (by omega) hef (by omega) (by omega) (by omega) (by omega)) | exact Exp.chk3 hlife (by omega) (hI.done (by omega))
      refine q_end0 (v := .int .i64 2) (rt1 rfl (r_tmp rfl)) (i := 1) rfl ?_
      exact (by have hcc := congrArg (fun (y0 : Int) => (.int .i64 y0 : Value)) hr0; exact hcc)
    · simp only [decide_eq_false_iff_not, Int.not_lt] at hc3
      refine c_skip ?_
      refine q_then ?_
      refine c_seq ?_
      refine c_seq ?_
      refine c_region ?_
      refine o_pure (p_assign (v := .int .i64 0) rfl) rfl rfl rfl ?_
      refine o_nil ?_
      refine q_then ?_
      refine c_block ?_
      refine c_loop (St := Nat)
        (fun i => [(1, .pointer (some ⟨B1, 0, none⟩)), (3, .int .i64 (i : Int))])
        (fun i => [box B1 [.int .i64 s.life, .slice as_0 s.entries.length cs_0] 24, base w0])
        (fun i => Exp.CkI s.entries (Exp.lastOf s.entries i) i)
        (fun i => s.entries.length - i)
        0 ?_ (Sub.cons rfl (Sub.cons rfl (Sub.nil _))) (fun _ hw => hw) ?_
      · exact Exp.CkI.start _
      rintro i hI K hK4
      show SC _ _ Try.prog 55 w0 _ _ [(1, .pointer (some ⟨B1, 0, none⟩)), (3, .int .i64 (i : Int))] [box B1 [.int .i64 s.life, .slice as_0 s.entries.length cs_0] 24, base w0]
      refine c_seq ?_
      refine c_seq ?_
      refine c_region ?_
      refine o_pure (p_move (v := .int .i64 (i : Int)) rfl) rfl rfl rfl ?_
      refine o_pure (p_fieldAddr (B := B1) (j := 0) (j' := 1) rfl fo24_1 rfl) rfl rfl rfl ?_
      refine o_pure (p_load (i := 0) (v := .slice as_0 s.entries.length cs_0) rfl rfl sh22 rfl) rfl rfl rfl ?_
      refine o_pure (p_len_slice (len := s.entries.length) rfl rfl Try.underlying22) rfl rfl rfl ?_
      refine o_pure (p_lt (p := (i : Int)) (q := (s.entries.length : Int)) rfl rfl) rfl rfl rfl ?_
      refine o_nil ?_
      refine q_then ?_
      refine c_cond (b := decide ((i : Int) < (s.entries.length : Int))) rfl (fun hc5 => ?_) (fun hc5 => ?_)
      · simp only [decide_eq_true_eq] at hc5
        refine c_skip ?_
        refine q_then ?_
        refine c_seq ?_
        refine c_block ?_
        refine c_seq ?_
        refine c_region ?_
        refine o_pure (p_fieldAddr (B := B1) (j := 0) (j' := 1) rfl fo24_1 rfl) rfl rfl rfl ?_
        refine o_pure (p_load (i := 0) (v := .slice as_0 s.entries.length cs_0) rfl rfl sh22 rfl) rfl rfl rfl ?_
        refine o_pure (p_move (v := .int .i64 (i : Int)) rfl) rfl rfl rfl ?_
        refine o_pure (p_indexAddr (L := s.entries) (T := tEntry) (i := (i : Int)) rfl rfl (rd_base (i := 1) rfl hs_0) Try.underlying22 sz42 (by omega) (by omega)) rfl rfl rfl ?_
        refine o_pure (p_loadEn (i := i) (T := tEntry) (L := s.entries) (vs := [.int .i64 ((s.entries[i]).key), .int .i64 ((s.entries[i]).value), .int .i64 ((s.entries[i]).till)]) rfl (rd_base (i := 1) rfl hs_0) (by first | assumption | omega) sh42 rfl) rfl rfl rfl ?_
        refine o_alloc ze42 rfl (fun B6 => ?_)
        refine o_storeN (i := 0) (vs := [.int .i64 ((s.entries[i]).key), .int .i64 ((s.entries[i]).value), .int .i64 ((s.entries[i]).till)]) (cs' := [.int .i64 ((s.entries[i]).key), .int .i64 ((s.entries[i]).value), .int .i64 ((s.entries[i]).till)]) rfl rfl rfl sz42 rfl rfl rfl rfl ?_
        refine o_nil ?_
        refine q_then ?_
        refine c_seq ?_
        refine c_seq ?_
        refine c_region ?_
        refine o_pure (p_fieldAddr (B := B6) (j := 0) (j' := 0) rfl fo42_0 rfl) rfl rfl rfl ?_
        refine o_pure (p_load (i := 0) (v := .int .i64 ((s.entries[i]).key)) rfl rfl sh3 rfl) rfl rfl rfl ?_
        refine o_call0 (v := .bool (Ref.between ((s.entries[i]).key) (0 : Int) (1048576 : Int))) rfl (between_ok ((s.entries[i]).key) (0 : Int) (1048576 : Int)) hf56 (fun _ _ => trivial) rfl ?_
        refine o_pure (p_not (b := (Ref.between ((s.entries[i]).key) (0 : Int) (1048576 : Int))) rfl) rfl rfl rfl ?_
        refine o_pure (p_move (v := .bool (!(Ref.between ((s.entries[i]).key) (0 : Int) (1048576 : Int)))) rfl) rfl rfl rfl ?_
        refine o_or (p := 34) 5 (!(Ref.between ((s.entries[i]).value) ((-1099511627776) : Int) (1099511627776 : Int))) ?_ ?_ ?_
        · intro hb7 hk
          simp only [Bool.not_eq_false'] at hb7
          refine o_unguard 29 rfl rfl ?_
          refine o_pure (p_fieldAddr (B := B6) (j := 0) (j' := 1) rfl fo42_1 rfl) rfl rfl rfl ?_
          refine o_unguard 29 rfl rfl ?_
          refine o_pure (p_load (i := 0) (v := .int .i64 ((s.entries[i]).value)) rfl rfl sh3 rfl) rfl rfl rfl ?_
          refine o_unguard 29 rfl rfl ?_
          refine o_call0 (v := .bool (Ref.between ((s.entries[i]).value) ((-1099511627776) : Int) (1099511627776 : Int))) rfl (between_ok ((s.entries[i]).value) ((-1099511627776) : Int) (1099511627776 : Int)) hf56 (fun _ _ => trivial) rfl ?_
          refine o_unguard 29 rfl rfl ?_
          refine o_pure (p_not (b := (Ref.between ((s.entries[i]).value) ((-1099511627776) : Int) (1099511627776 : Int))) rfl) rfl rfl rfl ?_
          refine o_pure (p_pick_false (v := .bool (!(Ref.between ((s.entries[i]).value) ((-1099511627776) : Int) (1099511627776 : Int)))) rfl rfl) rfl rfl rfl ?_
          exact o_sub (Sub.cons rfl (Sub.skip rfl (Sub.skip rfl (Sub.skip rfl (Sub.skip rfl (Sub.skip rfl (Sub.skip rfl (Sub.refl _)))))))) hk
        · intro hb7 hk
          refine o_guard_no rfl 29 rfl rfl rfl rfl rfl ?_
          refine o_guard_no rfl 29 rfl rfl rfl rfl rfl ?_
          refine o_guard_no rfl 29 rfl rfl rfl rfl rfl ?_
          refine o_guard_no rfl 29 rfl rfl rfl rfl rfl ?_
          refine o_pure (p_pick_true (u := .bool true) rfl rfl) rfl rfl rfl ?_
          exact o_sub (Sub.cons rfl (Sub.skip rfl (Sub.skip rfl (Sub.skip rfl (Sub.skip rfl (Sub.skip rfl (Sub.skip rfl (Sub.refl _)))))))) hk
        refine o_pure (p_move (v := .bool ((!(Ref.between ((s.entries[i]).key) (0 : Int) (1048576 : Int))) || (!(Ref.between ((s.entries[i]).value) ((-1099511627776) : Int) (1099511627776 : Int))))) rfl) rfl rfl rfl ?_
        refine o_or (p := 40) 5 (!(Ref.between ((s.entries[i]).till) (0 : Int) (1100585369600 : Int))) ?_ ?_ ?_
        · intro hb8 hk
          simp only [Bool.or_eq_false_iff, Bool.not_eq_false'] at hb8
          refine o_unguard 35 rfl rfl ?_
          refine o_pure (p_fieldAddr (B := B6) (j := 0) (j' := 2) rfl fo42_2 rfl) rfl rfl rfl ?_
          refine o_unguard 35 rfl rfl ?_
          refine o_pure (p_load (i := 0) (v := .int .i64 ((s.entries[i]).till)) rfl rfl sh3 rfl) rfl rfl rfl ?_
          refine o_unguard 35 rfl rfl ?_
          refine o_call0 (v := .bool (Ref.between ((s.entries[i]).till) (0 : Int) (1100585369600 : Int))) rfl (between_ok ((s.entries[i]).till) (0 : Int) (1100585369600 : Int)) hf56 (fun _ _ => trivial) rfl ?_
          refine o_unguard 35 rfl rfl ?_
          refine o_pure (p_not (b := (Ref.between ((s.entries[i]).till) (0 : Int) (1100585369600 : Int))) rfl) rfl rfl rfl ?_
          refine o_pure (p_pick_false (v := .bool (!(Ref.between ((s.entries[i]).till) (0 : Int) (1100585369600 : Int)))) rfl rfl) rfl rfl rfl ?_
          exact o_sub (Sub.cons rfl (Sub.skip rfl (Sub.skip rfl (Sub.skip rfl (Sub.skip rfl (Sub.skip rfl (Sub.skip rfl (Sub.refl _)))))))) hk
        · intro hb8 hk
          refine o_guard_no rfl 35 rfl rfl rfl rfl rfl ?_
          refine o_guard_no rfl 35 rfl rfl rfl rfl rfl ?_
          refine o_guard_no rfl 35 rfl rfl rfl rfl rfl ?_
          refine o_guard_no rfl 35 rfl rfl rfl rfl rfl ?_
          refine o_pure (p_pick_true (u := .bool true) rfl rfl) rfl rfl rfl ?_
          exact o_sub (Sub.cons rfl (Sub.skip rfl (Sub.skip rfl (Sub.skip rfl (Sub.skip rfl (Sub.skip rfl (Sub.skip rfl (Sub.refl _)))))))) hk
        refine o_nil ?_
        refine q_then ?_
        refine c_cond (b := (((!(Ref.between ((s.entries[i]).key) (0 : Int) (1048576 : Int))) || (!(Ref.between ((s.entries[i]).value) ((-1099511627776) : Int) (1099511627776 : Int)))) || (!(Ref.between ((s.entries[i]).till) (0 : Int) (1100585369600 : Int))))) rfl (fun hc9 => ?_) (fun hc9 => ?_)
        · simp only [Bool.or_eq_true, Bool.not_eq_true'] at hc9
          have heb := Exp.ref_bad hc9
          refine c_seq ?_
          refine c_region ?_
          refine o_pure (p_assign (v := .int .i64 3) rfl) rfl rfl rfl ?_
          refine o_nil ?_
          refine q_then ?_
          refine c_ret ?_
          refine q_then_ret (q_block_ret (q_then_ret (q_then_ret (q_block_ret (q_then_ret ?_)))))
          have hr0 : (3 : Int) = (Exp.check s) := by
            first | exact Exp.chk1 hlife | exact Exp.chk2 hlife (by assumption) | exact Exp.chk3 hlife (by omega) (hI.bad (by omega) heb) | exact Exp.chk3 hlife (by omega) (hI.refLow (j := ((i : Int) - 1).toNat) (by omega) hef (by omega) (by omega) (by omega) (by omega)) | exact Exp.chk3 hlife (by omega) (hI.done (by omega))
          refine q_end0 (v := .int .i64 3) (rt1 rfl (r_tmp rfl)) (i := 2) rfl ?_
          exact (by have hcc := congrArg (fun (y0 : Int) => (.int .i64 y0 : Value)) hr0; exact hcc)
        · simp only [Bool.or_eq_false_iff, Bool.not_eq_false'] at hc9
          have hef := Exp.ref_fine hc9
          refine c_skip ?_
          refine q_then ?_
          refine c_seq ?_
          refine c_draw hmix (by kernel_rfl) ?_
          refine w_pure (p_move (v := .int .i64 (i : Int)) rfl) rfl rfl rfl ?_
          refine w_pure (p_gt (p := (i : Int)) (q := 0) rfl rfl) rfl rfl rfl ?_
          refine w_pure (p_move (v := .bool (decide (0 < (i : Int)))) rfl) rfl rfl rfl ?_
          refine w_and (p := 54) 11 (decide ((s.entries[i]).key ≤ (s.entries[((i : Int) - 1).toNat]).key)) ?_ ?_ ?_
          · intro hb10 hk
            simp only [decide_eq_true_eq] at hb10
            refine w_unguard 43 rfl rfl ?_
            refine w_pure (p_fieldAddr (B := B6) (j := 0) (j' := 0) rfl fo42_0 rfl) rfl rfl rfl ?_
            refine w_unguard 43 rfl rfl ?_
            refine w_pure (p_load (i := 0) (v := .int .i64 ((s.entries[i]).key)) rfl rfl sh3 rfl) rfl rfl rfl ?_
            refine w_unguard 43 rfl rfl ?_
            refine w_pure (p_fieldAddr (B := B1) (j := 0) (j' := 1) rfl fo24_1 rfl) rfl rfl rfl ?_
            refine w_unguard 43 rfl rfl ?_
            refine w_pure (p_load (i := 1) (v := .slice as_0 s.entries.length cs_0) rfl rfl sh22 rfl) rfl rfl rfl ?_
            refine w_unguard 43 rfl rfl ?_
            refine w_pure (p_move (v := .int .i64 (i : Int)) rfl) rfl rfl rfl ?_
            refine w_unguard 43 rfl rfl ?_
            refine w_pure (p_subb (p := (i : Int)) (q := 1) rfl rfl (by omega)) rfl rfl rfl ?_
            refine w_unguard 43 rfl rfl ?_
            refine w_pure (p_indexAddr (L := s.entries) (T := tEntry) (i := ((i : Int) - 1)) rfl rfl (rd_base (i := 2) rfl hs_0) Try.underlying22 sz42 (by omega) (by omega)) rfl rfl rfl ?_
            refine w_unguard 43 rfl rfl ?_
            refine w_pure (p_fieldAddrE rfl fo42_0) rfl rfl rfl ?_
            refine w_unguard 43 rfl rfl ?_
            refine w_pure (p_loadF (i := ((i : Int) - 1).toNat) (j := 0) (T := tEntry) (L := s.entries) (v := .int .i64 ((s.entries[((i : Int) - 1).toNat]).key)) rfl (rd_base (i := 2) rfl hs_0) (by first | assumption | omega) sh3 rfl) rfl rfl rfl ?_
            refine w_unguard 43 rfl rfl ?_
            refine w_pure (p_le (p := (s.entries[i]).key) (q := (s.entries[((i : Int) - 1).toNat]).key) rfl rfl) rfl rfl rfl ?_
            refine w_pure (p_pick_true (u := .bool (decide ((s.entries[i]).key ≤ (s.entries[((i : Int) - 1).toNat]).key))) rfl rfl) rfl rfl rfl ?_
            exact w_sub (Sub.cons rfl (Sub.skip rfl (Sub.skip rfl (Sub.skip rfl (Sub.skip rfl (Sub.skip rfl (Sub.skip rfl (Sub.skip rfl (Sub.skip rfl (Sub.skip rfl (Sub.skip rfl (Sub.skip rfl (Sub.skip rfl (Sub.refl _)))))))))))))) hk
          · intro hb10 hk
            refine w_guard_no rfl 43 rfl rfl rfl rfl rfl ?_
            refine w_guard_no rfl 43 rfl rfl rfl rfl rfl ?_
            refine w_guard_no rfl 43 rfl rfl rfl rfl rfl ?_
            refine w_guard_no rfl 43 rfl rfl rfl rfl rfl ?_
            refine w_guard_no rfl 43 rfl rfl rfl rfl rfl ?_
            refine w_guard_no rfl 43 rfl rfl rfl rfl rfl ?_
            refine w_guard_no rfl 43 rfl rfl rfl rfl rfl ?_
            refine w_guard_no rfl 43 rfl rfl rfl rfl rfl ?_
            refine w_guard_no rfl 43 rfl rfl rfl rfl rfl ?_
            refine w_guard_no rfl 43 rfl rfl rfl rfl rfl ?_
            refine w_pure (p_pick_false (v := .bool false) rfl rfl) rfl rfl rfl ?_
            exact w_sub (Sub.cons rfl (Sub.skip rfl (Sub.skip rfl (Sub.skip rfl (Sub.skip rfl (Sub.skip rfl (Sub.skip rfl (Sub.skip rfl (Sub.skip rfl (Sub.skip rfl (Sub.skip rfl (Sub.skip rfl (Sub.skip rfl (Sub.refl _)))))))))))))) hk
          refine w_nil ?_
          refine q_then ?_
          refine c_cond (b := (decide (0 < (i : Int)) && decide ((s.entries[i]).key ≤ (s.entries[((i : Int) - 1).toNat]).key))) rfl (fun hc11 => ?_) (fun hc11 => ?_)
          · simp only [Bool.and_eq_true, decide_eq_true_eq] at hc11
            refine c_seq ?_
            refine c_region ?_
            refine o_pure (p_assign (v := .int .i64 4) rfl) rfl rfl rfl ?_
            refine o_nil ?_
            refine q_then ?_
            refine c_ret ?_
            refine q_block_ret (q_then_ret (q_then_ret (q_block_ret (q_then_ret ?_))))
            have hr0 : (4 : Int) = (Exp.check s) := by
              first | exact Exp.chk1 hlife | exact Exp.chk2 hlife (by assumption) | exact Exp.chk3 hlife (by omega) (hI.bad (by omega) heb) | exact Exp.chk3 hlife (by omega) (hI.refLow (j := ((i : Int) - 1).toNat) (by omega) hef (by omega) (by omega) (by omega) (by omega)) | exact Exp.chk3 hlife (by omega) (hI.done (by omega))
            refine q_end0 (v := .int .i64 4) (rt1 rfl (r_tmp rfl)) (i := 2) rfl ?_
            exact (by have hcc := congrArg (fun (y0 : Int) => (.int .i64 y0 : Value)) hr0; exact hcc)
          · simp only [Bool.and_eq_false_iff, decide_eq_false_iff_not, Int.not_lt, Int.not_le] at hc11
            refine c_skip ?_
            refine q_block_normal (q_then ?_)
            refine c_region ?_
            refine o_pure (p_move (v := .int .i64 (i : Int)) rfl) rfl rfl rfl ?_
            refine o_pure (p_addb (p := (i : Int)) (q := 1) rfl rfl (by omega)) rfl rfl rfl ?_
            refine o_pure (p_assign (v := .int .i64 ((i : Int) + 1)) rfl) rfl rfl rfl ?_
            refine o_nil ?_
            refine q_round hK4 (i + 1) ?_ ?_ ?_ ?_
            · clear hK4
              exact hI.refNext (j := ((i : Int) - 1).toNat) (by omega) hef (by omega) (by omega) (by omega)
            · (try dsimp only); omega
            · exact Sub.cons rfl (Sub.cons rfl (Sub.nil _))
            · exact fun _ hw => HeapIs.pick hw [1, 2] (by decide) rfl
      · simp only [decide_eq_false_iff_not, Int.not_lt] at hc5
        refine c_exit ?_
        refine q_then_exit (q_then_exit (q_block_exit (q_then ?_)))
        refine c_seq ?_
        refine c_region ?_
        refine o_pure (p_assign (v := .int .i64 0) rfl) rfl rfl rfl ?_
        refine o_nil ?_
        refine q_then ?_
        refine c_ret ?_
        have hr0 : (0 : Int) = (Exp.check s) := by
          first | exact Exp.chk1 hlife | exact Exp.chk2 hlife (by assumption) | exact Exp.chk3 hlife (by omega) (hI.bad (by omega) heb) | exact Exp.chk3 hlife (by omega) (hI.refLow (j := ((i : Int) - 1).toNat) (by omega) hef (by omega) (by omega) (by omega) (by omega)) | exact Exp.chk3 hlife (by omega) (hI.done (by omega))
        refine q_end0 (v := .int .i64 0) (rt1 rfl (r_tmp rfl)) (i := 1) rfl ?_
        exact (by have hcc := congrArg (fun (y0 : Int) => (.int .i64 y0 : Value)) hr0; exact hcc)

set_option maxHeartbeats 8000000 in
set_option maxRecDepth 100000 in
theorem lastErr_ok (s : DStore) (as_0 : Option Addr) (cs_0 : Nat) (now : Int) : Fn0 Try.prog 20 [.agg #[.int .i64 s.life, .slice as_0 s.entries.length cs_0], .int .i64 now] (fun w => Rd tEntry w as_0 cs_0 s.entries) (.int .i64 (Exp.nowErr s now)) := by
  refine fn0 (nt := 16) (F0 := [(0, .agg #[.int .i64 s.life, .slice as_0 s.entries.length cs_0]), (1, .int .i64 now)]) Try.func20 rfl Try.ntmps20 rfl rfl (fun w0 hpre => ?_)
  have hs_0 := hpre
  have hlhs_0 := hs_0.2.1
  refine c_seq ?_
  refine c_region ?_
  refine o_box (v := .agg #[.int .i64 s.life, .slice as_0 s.entries.length cs_0]) rfl rfl (fun B1 => ?_)
  refine o_pure (p_assign (v := .int .i64 0) rfl) rfl rfl rfl ?_
  refine o_nil ?_
  refine q_then ?_
  refine c_seq ?_
  refine c_region ?_
  refine o_pure (p_load_agg (i := 0) (vs := [.int .i64 s.life, .slice as_0 s.entries.length cs_0]) rfl rfl sh24 rfl rfl) rfl rfl rfl ?_
  refine o_call0 (v := .int .i64 (Exp.check s)) rfl (lastCheck_ok s as_0 cs_0) hf19 (fun w hw => (rd_base (i := 1) rfl hs_0) w hw) rfl ?_
  refine o_pure (p_assign (v := .int .i64 (Exp.check s)) rfl) rfl rfl rfl ?_
  refine o_nil ?_
  refine q_then ?_
  refine c_seq ?_
  refine c_seq ?_
  refine c_region ?_
  refine o_pure (p_move (v := .int .i64 (Exp.check s)) rfl) rfl rfl rfl ?_
  refine o_pure (p_eq (p := (Exp.check s)) (q := 0) rfl rfl) rfl rfl rfl ?_
  refine o_pure (p_move (v := .bool ((Exp.check s) == 0)) rfl) rfl rfl rfl ?_
  refine o_and (p := 14) 4 (!(Ref.between now (0 : Int) (1099511627776 : Int))) ?_ ?_ ?_
  · intro hb2 hk
    simp only [beq_iff_eq] at hb2
    refine o_unguard 10 rfl rfl ?_
    refine o_pure (p_move (v := .int .i64 now) rfl) rfl rfl rfl ?_
    refine o_unguard 10 rfl rfl ?_
    refine o_call0 (v := .bool (Ref.between now (0 : Int) (1099511627776 : Int))) rfl (between_ok now (0 : Int) (1099511627776 : Int)) hf56 (fun _ _ => trivial) rfl ?_
    refine o_unguard 10 rfl rfl ?_
    refine o_pure (p_not (b := (Ref.between now (0 : Int) (1099511627776 : Int))) rfl) rfl rfl rfl ?_
    refine o_pure (p_pick_true (u := .bool (!(Ref.between now (0 : Int) (1099511627776 : Int)))) rfl rfl) rfl rfl rfl ?_
    exact o_sub (Sub.cons rfl (Sub.skip rfl (Sub.skip rfl (Sub.skip rfl (Sub.skip rfl (Sub.skip rfl (Sub.refl _))))))) hk
  · intro hb2 hk
    refine o_guard_no rfl 10 rfl rfl rfl rfl rfl ?_
    refine o_guard_no rfl 10 rfl rfl rfl rfl rfl ?_
    refine o_guard_no rfl 10 rfl rfl rfl rfl rfl ?_
    refine o_pure (p_pick_false (v := .bool false) rfl rfl) rfl rfl rfl ?_
    exact o_sub (Sub.cons rfl (Sub.skip rfl (Sub.skip rfl (Sub.skip rfl (Sub.skip rfl (Sub.skip rfl (Sub.refl _))))))) hk
  refine o_nil ?_
  refine q_then ?_
  refine c_cond (b := (((Exp.check s) == 0) && (!(Ref.between now (0 : Int) (1099511627776 : Int))))) rfl (fun hc3 => ?_) (fun hc3 => ?_)
  · simp only [Bool.and_eq_true, beq_iff_eq, Bool.not_eq_true'] at hc3
    refine c_region ?_
    refine o_pure (p_assign (v := .int .i64 3) rfl) rfl rfl rfl ?_
    refine o_nil ?_
    refine q_then ?_
    refine c_seq ?_
    refine c_region ?_
    refine o_pure (p_move (v := .int .i64 3) rfl) rfl rfl rfl ?_
    refine o_pure (p_assign (v := .int .i64 3) rfl) rfl rfl rfl ?_
    refine o_nil ?_
    refine q_then ?_
    refine c_ret ?_
    have hr0 : (3 : Int) = (Exp.nowErr s now) := by
      rcases Exp.now_cases s now with ⟨a, b⟩ | ⟨a, b, d⟩ | ⟨a, b, d⟩ <;> simp [Exp.okNow, Ref.between] at * <;> first | omega | simp_all
    refine q_end0 (v := .int .i64 3) (rt1 rfl (r_tmp rfl)) (i := 1) rfl ?_
    exact (by have hcc := congrArg (fun (y0 : Int) => (.int .i64 y0 : Value)) hr0; exact hcc)
  · simp only [Bool.and_eq_false_iff, beq_eq_false_iff_ne, ne_eq, Bool.not_eq_false'] at hc3
    refine c_skip ?_
    refine q_then ?_
    refine c_seq ?_
    refine c_region ?_
    refine o_pure (p_move (v := .int .i64 (Exp.check s)) rfl) rfl rfl rfl ?_
    refine o_pure (p_assign (v := .int .i64 (Exp.check s)) rfl) rfl rfl rfl ?_
    refine o_nil ?_
    refine q_then ?_
    refine c_ret ?_
    have hr0 : ((Exp.check s) : Int) = (Exp.nowErr s now) := by
      rcases Exp.now_cases s now with ⟨a, b⟩ | ⟨a, b, d⟩ | ⟨a, b, d⟩ <;> simp [Exp.okNow, Ref.between] at * <;> first | omega | simp_all
    refine q_end0 (v := .int .i64 (Exp.check s)) (rt1 rfl (r_tmp rfl)) (i := 1) rfl ?_
    exact (by have hcc := congrArg (fun (y0 : Int) => (.int .i64 y0 : Value)) hr0; exact hcc)

set_option maxHeartbeats 8000000 in
set_option maxRecDepth 100000 in
theorem lastSweep_ok (s : DStore) (as_0 : Option Addr) (cs_0 : Nat) (now : Int) (hy1 : s.entries.length ≤ 40) : FnM Try.prog 21 [.agg #[.int .i64 s.life, .slice as_0 s.entries.length cs_0], .int .i64 now] (fun w => Rd tEntry w as_0 cs_0 s.entries) (Option Addr × Nat × Option Addr × Nat) (fun p => .tuple #[.agg #[.int .i64 s.life, .slice p.1 (Exp.live now s.entries).length p.2.1], .slice p.2.2.1 (Exp.over now s.entries).length p.2.2.2]) (fun p S w => SlR tEntry S w p.1 p.2.1 (Exp.live now s.entries) ∧ SlR tInt S w p.2.2.1 p.2.2.2 (Exp.over now s.entries)) := by
  refine fnM (nt := 48) (F0 := [(0, .agg #[.int .i64 s.life, .slice as_0 s.entries.length cs_0]), (1, .int .i64 now)]) Try.func21 rfl Try.ntmps21 rfl rfl (fun w0 hpre => ?_)
  have hs_0 := hpre
  have hlhs_0 := hs_0.2.1
  refine c_seq ?_
  refine c_region ?_
  refine o_box (v := .agg #[.int .i64 s.life, .slice as_0 s.entries.length cs_0]) rfl rfl (fun B1 => ?_)
  refine o_alloc ze24 rfl (fun B2 => ?_)
  refine o_pure (p_assign (v := .slice none 0 0) rfl) rfl rfl rfl ?_
  refine o_nil ?_
  refine q_then ?_
  refine c_seq ?_
  refine c_region ?_
  refine o_pure (p_fieldAddr (B := B1) (j := 0) (j' := 0) rfl fo24_0 rfl) rfl rfl rfl ?_
  refine o_pure (p_load (i := 1) (v := .int .i64 s.life) rfl rfl sh3 rfl) rfl rfl rfl ?_
  refine o_pure (p_build (cells := [.int .i64 s.life, .slice none 0 0]) fp24 ze24 rfl rfl) rfl rfl rfl ?_
  refine o_alloc ze24 rfl (fun B3 => ?_)
  refine o_storeN (i := 0) (vs := [.int .i64 s.life, .slice none 0 0]) (cs' := [.int .i64 s.life, .slice none 0 0]) rfl rfl rfl sz24 rfl rfl rfl rfl ?_
  refine o_nil ?_
  refine q_then ?_
  refine c_seq ?_
  refine c_region ?_
  refine o_pure (p_assign (v := .slice none 0 0) rfl) rfl rfl rfl ?_
  refine o_nil ?_
  refine q_then ?_
  refine c_seq ?_
  refine c_seq ?_
  refine c_region ?_
  refine o_pure (p_assign (v := .int .i64 0) rfl) rfl rfl rfl ?_
  refine o_nil ?_
  refine q_then ?_
  refine c_block ?_
  refine c_ownNil tInt ?_
  refine c_ownNil tEntry ?_
  refine c_loop (St := List Int × Option Addr × Nat × (Nat → Prop) × Nat × DStore × Option Addr × Nat × (Nat → Prop))
    (fun ⟨gone, agone, cgone, Sgone, i, oc, aoc_0, coc_0, Soc_0⟩ => [(1, .int .i64 now), (2, .pointer (some ⟨B1, 0, none⟩)), (4, .pointer (some ⟨B2, 0, none⟩)), (6, .pointer (some ⟨B3, 0, none⟩)), (7, .slice agone gone.length cgone), (8, .int .i64 (i : Int))])
    (fun ⟨gone, agone, cgone, Sgone, i, oc, aoc_0, coc_0, Soc_0⟩ => [own tEntry Soc_0 aoc_0 coc_0 oc.entries, own tInt Sgone agone cgone gone, box B3 [.int .i64 oc.life, .slice aoc_0 oc.entries.length coc_0] 24, box B2 [.int .i64 0, .slice none 0 0] 24, box B1 [.int .i64 s.life, .slice as_0 s.entries.length cs_0] 24, base w0])
    (fun ⟨gone, agone, cgone, Sgone, i, oc, aoc_0, coc_0, Soc_0⟩ => Exp.SwI s now oc gone i)
    (fun ⟨gone, agone, cgone, Sgone, i, oc, aoc_0, coc_0, Soc_0⟩ => s.entries.length - i)
    ([], none, 0, (fun _ => False), 0, (⟨s.life, []⟩ : DStore), none, 0, (fun _ => False)) ?_ (Sub.cons rfl (Sub.cons rfl (Sub.cons rfl (Sub.cons rfl (Sub.cons rfl (Sub.cons rfl (Sub.nil _))))))) (fun _ hw => hw) ?_
  · exact Exp.SwI.start _ _
  rintro ⟨gone, agone, cgone, Sgone, i, oc, aoc_0, coc_0, Soc_0⟩ hI K hK6
  have hsl := hI.lens
  have hsk := hI.le
  show SC _ _ Try.prog 48 w0 _ _ [(1, .int .i64 now), (2, .pointer (some ⟨B1, 0, none⟩)), (4, .pointer (some ⟨B2, 0, none⟩)), (6, .pointer (some ⟨B3, 0, none⟩)), (7, .slice agone gone.length cgone), (8, .int .i64 (i : Int))] [own tEntry Soc_0 aoc_0 coc_0 oc.entries, own tInt Sgone agone cgone gone, box B3 [.int .i64 oc.life, .slice aoc_0 oc.entries.length coc_0] 24, box B2 [.int .i64 0, .slice none 0 0] 24, box B1 [.int .i64 s.life, .slice as_0 s.entries.length cs_0] 24, base w0]
  refine c_seq ?_
  refine c_seq ?_
  refine c_region ?_
  refine o_pure (p_move (v := .int .i64 (i : Int)) rfl) rfl rfl rfl ?_
  refine o_pure (p_fieldAddr (B := B1) (j := 0) (j' := 1) rfl fo24_1 rfl) rfl rfl rfl ?_
  refine o_pure (p_load (i := 4) (v := .slice as_0 s.entries.length cs_0) rfl rfl sh22 rfl) rfl rfl rfl ?_
  refine o_pure (p_len_slice (len := s.entries.length) rfl rfl Try.underlying22) rfl rfl rfl ?_
  refine o_pure (p_lt (p := (i : Int)) (q := (s.entries.length : Int)) rfl rfl) rfl rfl rfl ?_
  refine o_nil ?_
  refine q_then ?_
  refine c_cond (b := decide ((i : Int) < (s.entries.length : Int))) rfl (fun hc7 => ?_) (fun hc7 => ?_)
  · simp only [decide_eq_true_eq] at hc7
    refine c_skip ?_
    refine q_then ?_
    refine c_seq ?_
    refine c_block ?_
    refine c_seq ?_
    refine c_region ?_
    refine o_pure (p_fieldAddr (B := B1) (j := 0) (j' := 1) rfl fo24_1 rfl) rfl rfl rfl ?_
    refine o_pure (p_load (i := 4) (v := .slice as_0 s.entries.length cs_0) rfl rfl sh22 rfl) rfl rfl rfl ?_
    refine o_pure (p_move (v := .int .i64 (i : Int)) rfl) rfl rfl rfl ?_
    refine o_pure (p_indexAddr (L := s.entries) (T := tEntry) (i := (i : Int)) rfl rfl (rd_base (i := 5) rfl hs_0) Try.underlying22 sz42 (by omega) (by omega)) rfl rfl rfl ?_
    refine o_pure (p_fieldAddrE rfl fo42_2) rfl rfl rfl ?_
    refine o_pure (p_loadF (i := i) (j := 2) (T := tEntry) (L := s.entries) (v := .int .i64 ((s.entries[i]).till)) rfl (rd_base (i := 5) rfl hs_0) (by first | assumption | omega) sh3 rfl) rfl rfl rfl ?_
    refine o_pure (p_move (v := .int .i64 now) rfl) rfl rfl rfl ?_
    refine o_pure (p_le (p := (s.entries[i]).till) (q := now) rfl rfl) rfl rfl rfl ?_
    refine o_nil ?_
    refine q_then ?_
    refine c_cond (b := decide ((s.entries[i]).till ≤ now)) rfl (fun hc8 => ?_) (fun hc8 => ?_)
    · simp only [decide_eq_true_eq] at hc8
      refine c_region ?_
      refine o_pure (p_move (v := .slice agone gone.length cgone) rfl) rfl rfl rfl ?_
      refine o_pure (p_fieldAddr (B := B1) (j := 0) (j' := 1) rfl fo24_1 rfl) rfl rfl rfl ?_
      refine o_pure (p_load (i := 4) (v := .slice as_0 s.entries.length cs_0) rfl rfl sh22 rfl) rfl rfl rfl ?_
      refine o_pure (p_move (v := .int .i64 (i : Int)) rfl) rfl rfl rfl ?_
      refine o_pure (p_indexAddr (L := s.entries) (T := tEntry) (i := (i : Int)) rfl rfl (rd_base (i := 5) rfl hs_0) Try.underlying22 sz42 (by omega) (by omega)) rfl rfl rfl ?_
      refine o_pure (p_fieldAddrE rfl fo42_0) rfl rfl rfl ?_
      refine o_pure (p_loadF (i := i) (j := 0) (T := tEntry) (L := s.entries) (v := .int .i64 ((s.entries[i]).key)) rfl (rd_base (i := 5) rfl hs_0) (by first | assumption | omega) sh3 rfl) rfl rfl rfl ?_
      refine o_buildSlice (m := 1) (T := tInt) (L := [(s.entries[i]).key]) (vs := [.int .i64 ((s.entries[i]).key)]) rfl rfl rfl rfl Try.underlying30 sz3 (by decide) ze3 rfl (by decide) rfl (fun S9 a10 => ?_)
      refine o_append (i := 2) (L := gone) (M := [(s.entries[i]).key]) (T := tInt) rfl rfl rfl (rd_own (i := 0) rfl) Try.underlying30 Try.underlying30 (by intro k h; cases h) el3 (by intro z; simp [tInt, one1]) (by decide) (by first | omega | (simp only [List.length_cons, List.length_nil]; omega) | (simp only [List.length_append, List.length_cons, List.length_nil, List.length_take, List.length_drop]; omega)) rfl (fun a12 c13 S14 => ?_)
      refine o_pure (p_assign (v := .slice a12 (gone ++ [(s.entries[i]).key]).length c13) rfl) rfl rfl rfl ?_
      refine o_nil ?_
      refine q_block_normal (q_then ?_)
      refine c_region ?_
      refine o_pure (p_move (v := .int .i64 (i : Int)) rfl) rfl rfl rfl ?_
      refine o_pure (p_addb (p := (i : Int)) (q := 1) rfl rfl (by omega)) rfl rfl rfl ?_
      refine o_pure (p_assign (v := .int .i64 ((i : Int) + 1)) rfl) rfl rfl rfl ?_
      refine o_nil ?_
      refine q_round hK6 ((gone ++ [(s.entries[i]).key]), a12, c13, S14, i + 1, oc, aoc_0, coc_0, Soc_0) ?_ ?_ ?_ ?_
      · clear hK6
        first | exact hI.keep (by omega) (by assumption) | exact hI.drop (by omega) (by assumption)
      · (try dsimp only); omega
      · exact Sub.cons rfl (Sub.cons rfl (Sub.cons rfl (Sub.cons rfl (Sub.cons rfl (Sub.cons rfl (Sub.nil _))))))
      · exact fun _ hw => HeapIs.pick hw [1, 2, 3, 4, 5, 6] (by decide) rfl
    · simp only [decide_eq_false_iff_not, Int.not_le] at hc8
      refine c_cut (G := (Nat → Prop) × Option Addr × Option Addr × Nat × (Nat → Prop)) (fun ⟨S15_7, a15_7, a15_8, c15_8, S15_8⟩ => [(1, .int .i64 now), (2, .pointer (some ⟨B1, 0, none⟩)), (4, .pointer (some ⟨B2, 0, none⟩)), (6, .pointer (some ⟨B3, 0, none⟩)), (7, .slice agone gone.length cgone), (8, .int .i64 (i : Int))]) (fun ⟨S15_7, a15_7, a15_8, c15_8, S15_8⟩ => [own tEntry S15_7 a15_7 ([(⟨(s.entries[i]).key, (s.entries[i]).value, (s.entries[i]).till⟩ : DEntry)].length) ([(⟨(s.entries[i]).key, (s.entries[i]).value, (s.entries[i]).till⟩ : DEntry)]), own tEntry S15_8 a15_8 c15_8 (oc.entries ++ [(⟨(s.entries[i]).key, (s.entries[i]).value, (s.entries[i]).till⟩ : DEntry)]), own tInt Sgone agone cgone gone, box B3 [.int .i64 oc.life, .slice a15_8 (oc.entries ++ [(⟨(s.entries[i]).key, (s.entries[i]).value, (s.entries[i]).till⟩ : DEntry)]).length c15_8] 24, box B2 [.int .i64 0, .slice none 0 0] 24, box B1 [.int .i64 s.life, .slice as_0 s.entries.length cs_0] 24, base w0]) (fun K hK16 => ?_) ?_
      · refine c_held hmix [own tInt Sgone agone cgone gone, box B2 [.int .i64 0, .slice none 0 0] 24, box B1 [.int .i64 s.life, .slice as_0 s.entries.length cs_0] 24, base w0] rfl rfl ?_
        refine h_take (i := 0) (ls := #[true, false, false, false, false, false, false, false, false, false, false]) rfl (by kernel_rfl) (by kernel_rfl) (by kernel_rfl) (fun _ _ _ h => h) (p_fieldAddr (B := B3) (j := 0) (j' := 1) rfl fo24_1 rfl) rfl rfl rfl (fun _ hw => HeapIs.drop hw (List.Sublist.cons _ (List.Sublist.cons_cons _ (List.Sublist.cons _ (List.Sublist.cons_cons _ (List.Sublist.cons_cons _ (List.Sublist.cons_cons _ (List.Sublist.slnil)))))))) rfl ?_
        refine h_take (i := 2) (ls := #[true, false, true, false, false, false, false, false, false, false, false]) rfl (by kernel_rfl) (by kernel_rfl) (by kernel_rfl) (fun _ _ _ h => h) (p_fieldAddr (B := B1) (j := 0) (j' := 1) rfl fo24_1 rfl) rfl rfl rfl (fun _ hw => HeapIs.drop hw (List.Sublist.cons _ (List.Sublist.cons_cons _ (List.Sublist.cons _ (List.Sublist.cons_cons _ (List.Sublist.cons_cons _ (List.Sublist.cons_cons _ (List.Sublist.slnil)))))))) rfl ?_
        refine h_take (i := 3) (ls := #[true, false, true, true, false, false, false, false, false, false, false]) rfl (by kernel_rfl) (by kernel_rfl) (by kernel_rfl) (fun _ _ _ h => h) (p_load (i := 2) (v := .slice as_0 s.entries.length cs_0) rfl rfl sh22 rfl) rfl rfl rfl (fun _ hw => HeapIs.drop hw (List.Sublist.cons _ (List.Sublist.cons_cons _ (List.Sublist.cons _ (List.Sublist.cons_cons _ (List.Sublist.cons_cons _ (List.Sublist.cons_cons _ (List.Sublist.slnil)))))))) rfl ?_
        refine h_take (i := 4) (ls := #[true, false, true, true, true, false, false, false, false, false, false]) rfl (by kernel_rfl) (by kernel_rfl) (by kernel_rfl) (fun _ _ _ h => h) (p_move (v := .int .i64 (i : Int)) rfl) rfl rfl rfl (fun _ hw => HeapIs.drop hw (List.Sublist.cons _ (List.Sublist.cons_cons _ (List.Sublist.cons _ (List.Sublist.cons_cons _ (List.Sublist.cons_cons _ (List.Sublist.cons_cons _ (List.Sublist.slnil)))))))) rfl ?_
        refine h_take (i := 5) (ls := #[true, false, true, true, true, true, false, false, false, false, false]) rfl (by kernel_rfl) (by kernel_rfl) (by kernel_rfl) (fun _ _ _ h => h) (p_indexAddr (L := s.entries) (T := tEntry) (i := (i : Int)) rfl rfl (rd_base (i := 3) rfl hs_0) Try.underlying22 sz42 (by omega) (by omega)) rfl rfl rfl (fun _ hw => HeapIs.drop hw (List.Sublist.cons _ (List.Sublist.cons_cons _ (List.Sublist.cons _ (List.Sublist.cons_cons _ (List.Sublist.cons_cons _ (List.Sublist.cons_cons _ (List.Sublist.slnil)))))))) rfl ?_
        refine h_take (i := 6) (ls := #[true, false, true, true, true, true, true, false, false, false, false]) rfl (by kernel_rfl) (by kernel_rfl) (by kernel_rfl) (fun _ _ _ h => h) (p_loadEn (i := i) (T := tEntry) (L := s.entries) (vs := [.int .i64 ((s.entries[i]).key), .int .i64 ((s.entries[i]).value), .int .i64 ((s.entries[i]).till)]) rfl (rd_base (i := 3) rfl hs_0) (by first | assumption | omega) sh42 rfl) rfl rfl rfl (fun _ hw => HeapIs.drop hw (List.Sublist.cons _ (List.Sublist.cons_cons _ (List.Sublist.cons _ (List.Sublist.cons_cons _ (List.Sublist.cons_cons _ (List.Sublist.cons_cons _ (List.Sublist.slnil)))))))) rfl ?_
        refine h_two (i := 1) (j := 7) (ls := #[true, true, true, true, true, true, true, false, false, false, false]) (ls' := #[true, false, true, true, true, true, true, true, false, false, false]) (by kernel_rfl) rfl rfl rfl rfl ?_ ?_
        · refine o_pure (p_load (i := 2) (v := .slice aoc_0 oc.entries.length coc_0) rfl rfl sh22 rfl) rfl rfl rfl ?_
          refine o_nil ?_
          refine h_next (fun _ hw => HeapIs.drop hw (List.Sublist.cons _ (List.Sublist.cons_cons _ (List.Sublist.cons _ (List.Sublist.cons_cons _ (List.Sublist.cons_cons _ (List.Sublist.cons_cons _ (List.Sublist.slnil)))))))) ?_
          refine h_one (i := 7) (ls := #[true, true, true, true, true, true, true, true, false, false, false]) (by kernel_rfl) rfl rfl ?_
          refine o_buildSlice (m := 1) (T := tEntry) (L := [(⟨(s.entries[i]).key, (s.entries[i]).value, (s.entries[i]).till⟩ : DEntry)]) (vs := [.agg #[.int .i64 ((s.entries[i]).key), .int .i64 ((s.entries[i]).value), .int .i64 ((s.entries[i]).till)]]) rfl rfl rfl rfl Try.underlying22 sz42 (by decide) ze42 rfl (by decide) rfl (fun S15_7 a15_7 => ?_)
          refine o_nil ?_
          refine h_next (fun _ hw => HeapIs.drop hw (List.Sublist.cons _ (List.Sublist.cons _ (List.Sublist.cons_cons _ (List.Sublist.cons _ (List.Sublist.cons_cons _ (List.Sublist.cons_cons _ (List.Sublist.cons_cons _ (List.Sublist.slnil))))))))) ?_
          refine h_one (i := 8) (ls := #[true, true, true, true, true, true, true, true, true, false, false]) (by kernel_rfl) rfl rfl ?_
          refine o_append (i := 1) (L := oc.entries) (M := [(⟨(s.entries[i]).key, (s.entries[i]).value, (s.entries[i]).till⟩ : DEntry)]) (T := tEntry) rfl rfl rfl (rd_own (i := 0) rfl) Try.underlying22 Try.underlying22 (by intro k h; cases h) el42 (by intro z; simp [tEntry, one1]) (by decide) (by first | omega | (simp only [List.length_cons, List.length_nil]; omega) | (simp only [List.length_append, List.length_cons, List.length_nil, List.length_take, List.length_drop]; omega)) rfl (fun a15_8 c15_8 S15_8 => ?_)
          refine o_nil ?_
          refine h_next (fun _ hw => HeapIs.drop hw (List.Sublist.cons _ (List.Sublist.cons _ (List.Sublist.cons_cons _ (List.Sublist.cons _ (List.Sublist.cons_cons _ (List.Sublist.cons_cons _ (List.Sublist.cons_cons _ (List.Sublist.slnil))))))))) ?_
          refine h_take (i := 9) (ls := #[true, true, true, true, true, true, true, true, true, true, false]) rfl (by kernel_rfl) (by kernel_rfl) (by kernel_rfl) (fun _ _ _ h => h) (p_fieldAddr (B := B3) (j := 0) (j' := 1) rfl fo24_1 rfl) rfl rfl rfl (fun _ hw => HeapIs.drop hw (List.Sublist.cons _ (List.Sublist.cons _ (List.Sublist.cons_cons _ (List.Sublist.cons _ (List.Sublist.cons_cons _ (List.Sublist.cons_cons _ (List.Sublist.cons_cons _ (List.Sublist.slnil))))))))) rfl ?_
          refine h_one (i := 10) (ls := #[true, true, true, true, true, true, true, true, true, true, true]) (by kernel_rfl) rfl rfl ?_
          refine o_store (i := 3) (v := .slice a15_8 (oc.entries ++ [(⟨(s.entries[i]).key, (s.entries[i]).value, (s.entries[i]).till⟩ : DEntry)]).length c15_8) (cs' := [.int .i64 oc.life, .slice a15_8 (oc.entries ++ [(⟨(s.entries[i]).key, (s.entries[i]).value, (s.entries[i]).till⟩ : DEntry)]).length c15_8]) rfl rfl rfl sz22 rfl rfl rfl ?_
          refine o_nil ?_
          refine h_next (fun _ hw => HeapIs.drop hw (List.Sublist.cons _ (List.Sublist.cons _ (List.Sublist.cons_cons _ (List.Sublist.cons _ (List.Sublist.cons_cons _ (List.Sublist.cons_cons _ (List.Sublist.cons_cons _ (List.Sublist.slnil))))))))) ?_
          refine h_done (by kernel_rfl) ?_
          refine q_kont hK16 (S15_7, a15_7, a15_8, c15_8, S15_8) (Sub.cons rfl (Sub.cons rfl (Sub.cons rfl (Sub.cons rfl (Sub.cons rfl (Sub.cons rfl (Sub.nil _))))))) (fun _ hw => HeapIs.pick hw [0, 1, 2, 3, 4, 5, 6] (by decide) rfl)
        · refine o_buildSlice (m := 1) (T := tEntry) (L := [(⟨(s.entries[i]).key, (s.entries[i]).value, (s.entries[i]).till⟩ : DEntry)]) (vs := [.agg #[.int .i64 ((s.entries[i]).key), .int .i64 ((s.entries[i]).value), .int .i64 ((s.entries[i]).till)]]) rfl rfl rfl rfl Try.underlying22 sz42 (by decide) ze42 rfl (by decide) rfl (fun S15_7 a15_7 => ?_)
          refine o_nil ?_
          refine h_next (fun _ hw => HeapIs.drop hw (List.Sublist.cons _ (List.Sublist.cons _ (List.Sublist.cons_cons _ (List.Sublist.cons _ (List.Sublist.cons_cons _ (List.Sublist.cons_cons _ (List.Sublist.cons_cons _ (List.Sublist.slnil))))))))) ?_
          refine h_one (i := 1) (ls := #[true, true, true, true, true, true, true, true, false, false, false]) (by kernel_rfl) rfl rfl ?_
          refine o_pure (p_load (i := 3) (v := .slice aoc_0 oc.entries.length coc_0) rfl rfl sh22 rfl) rfl rfl rfl ?_
          refine o_nil ?_
          refine h_next (fun _ hw => HeapIs.drop hw (List.Sublist.cons _ (List.Sublist.cons _ (List.Sublist.cons_cons _ (List.Sublist.cons _ (List.Sublist.cons_cons _ (List.Sublist.cons_cons _ (List.Sublist.cons_cons _ (List.Sublist.slnil))))))))) ?_
          refine h_one (i := 8) (ls := #[true, true, true, true, true, true, true, true, true, false, false]) (by kernel_rfl) rfl rfl ?_
          refine o_append (i := 1) (L := oc.entries) (M := [(⟨(s.entries[i]).key, (s.entries[i]).value, (s.entries[i]).till⟩ : DEntry)]) (T := tEntry) rfl rfl rfl (rd_own (i := 0) rfl) Try.underlying22 Try.underlying22 (by intro k h; cases h) el42 (by intro z; simp [tEntry, one1]) (by decide) (by first | omega | (simp only [List.length_cons, List.length_nil]; omega) | (simp only [List.length_append, List.length_cons, List.length_nil, List.length_take, List.length_drop]; omega)) rfl (fun a15_8 c15_8 S15_8 => ?_)
          refine o_nil ?_
          refine h_next (fun _ hw => HeapIs.drop hw (List.Sublist.cons _ (List.Sublist.cons _ (List.Sublist.cons_cons _ (List.Sublist.cons _ (List.Sublist.cons_cons _ (List.Sublist.cons_cons _ (List.Sublist.cons_cons _ (List.Sublist.slnil))))))))) ?_
          refine h_take (i := 9) (ls := #[true, true, true, true, true, true, true, true, true, true, false]) rfl (by kernel_rfl) (by kernel_rfl) (by kernel_rfl) (fun _ _ _ h => h) (p_fieldAddr (B := B3) (j := 0) (j' := 1) rfl fo24_1 rfl) rfl rfl rfl (fun _ hw => HeapIs.drop hw (List.Sublist.cons _ (List.Sublist.cons _ (List.Sublist.cons_cons _ (List.Sublist.cons _ (List.Sublist.cons_cons _ (List.Sublist.cons_cons _ (List.Sublist.cons_cons _ (List.Sublist.slnil))))))))) rfl ?_
          refine h_one (i := 10) (ls := #[true, true, true, true, true, true, true, true, true, true, true]) (by kernel_rfl) rfl rfl ?_
          refine o_store (i := 3) (v := .slice a15_8 (oc.entries ++ [(⟨(s.entries[i]).key, (s.entries[i]).value, (s.entries[i]).till⟩ : DEntry)]).length c15_8) (cs' := [.int .i64 oc.life, .slice a15_8 (oc.entries ++ [(⟨(s.entries[i]).key, (s.entries[i]).value, (s.entries[i]).till⟩ : DEntry)]).length c15_8]) rfl rfl rfl sz22 rfl rfl rfl ?_
          refine o_nil ?_
          refine h_next (fun _ hw => HeapIs.drop hw (List.Sublist.cons _ (List.Sublist.cons _ (List.Sublist.cons_cons _ (List.Sublist.cons _ (List.Sublist.cons_cons _ (List.Sublist.cons_cons _ (List.Sublist.cons_cons _ (List.Sublist.slnil))))))))) ?_
          refine h_done (by kernel_rfl) ?_
          refine q_kont hK16 (S15_7, a15_7, a15_8, c15_8, S15_8) (Sub.cons rfl (Sub.cons rfl (Sub.cons rfl (Sub.cons rfl (Sub.cons rfl (Sub.cons rfl (Sub.nil _))))))) (fun _ hw => HeapIs.pick hw [0, 1, 2, 3, 4, 5, 6] (by decide) rfl)
      rintro ⟨S15_7, a15_7, a15_8, c15_8, S15_8⟩
      show SQ _ 48 w0 _ _ [(1, .int .i64 now), (2, .pointer (some ⟨B1, 0, none⟩)), (4, .pointer (some ⟨B2, 0, none⟩)), (6, .pointer (some ⟨B3, 0, none⟩)), (7, .slice agone gone.length cgone), (8, .int .i64 (i : Int))] [own tEntry S15_7 a15_7 ([(⟨(s.entries[i]).key, (s.entries[i]).value, (s.entries[i]).till⟩ : DEntry)].length) ([(⟨(s.entries[i]).key, (s.entries[i]).value, (s.entries[i]).till⟩ : DEntry)]), own tEntry S15_8 a15_8 c15_8 (oc.entries ++ [(⟨(s.entries[i]).key, (s.entries[i]).value, (s.entries[i]).till⟩ : DEntry)]), own tInt Sgone agone cgone gone, box B3 [.int .i64 oc.life, .slice a15_8 (oc.entries ++ [(⟨(s.entries[i]).key, (s.entries[i]).value, (s.entries[i]).till⟩ : DEntry)]).length c15_8] 24, box B2 [.int .i64 0, .slice none 0 0] 24, box B1 [.int .i64 s.life, .slice as_0 s.entries.length cs_0] 24, base w0]
      refine q_cast (F' := [(1, .int .i64 now), (2, .pointer (some ⟨B1, 0, none⟩)), (4, .pointer (some ⟨B2, 0, none⟩)), (6, .pointer (some ⟨B3, 0, none⟩)), (7, .slice agone gone.length cgone), (8, .int .i64 (i : Int))]) (H := [own tEntry S15_7 a15_7 ([(⟨(s.entries[i]).key, (s.entries[i]).value, (s.entries[i]).till⟩ : DEntry)].length) ([(⟨(s.entries[i]).key, (s.entries[i]).value, (s.entries[i]).till⟩ : DEntry)]), own tEntry S15_8 a15_8 c15_8 (oc.entries ++ [(⟨(s.entries[i]).key, (s.entries[i]).value, (s.entries[i]).till⟩ : DEntry)]), own tInt Sgone agone cgone gone, box B3 [.int .i64 oc.life, .slice a15_8 (oc.entries ++ [(⟨(s.entries[i]).key, (s.entries[i]).value, (s.entries[i]).till⟩ : DEntry)]).length c15_8] 24, box B2 [.int .i64 0, .slice none 0 0] 24, box B1 [.int .i64 s.life, .slice as_0 s.entries.length cs_0] 24, base w0]) (H' := [own tEntry S15_7 a15_7 ([(⟨(s.entries[i]).key, (s.entries[i]).value, (s.entries[i]).till⟩ : DEntry)].length) ([(⟨(s.entries[i]).key, (s.entries[i]).value, (s.entries[i]).till⟩ : DEntry)]), own tEntry S15_8 a15_8 c15_8 (oc.entries ++ [(⟨(s.entries[i]).key, (s.entries[i]).value, (s.entries[i]).till⟩ : DEntry)]), own tInt Sgone agone cgone gone, box B3 [.int .i64 oc.life, .slice a15_8 (oc.entries ++ [(⟨(s.entries[i]).key, (s.entries[i]).value, (s.entries[i]).till⟩ : DEntry)]).length c15_8] 24, box B2 [.int .i64 0, .slice none 0 0] 24, box B1 [.int .i64 s.life, .slice as_0 s.entries.length cs_0] 24, base w0]) (Sub.cons rfl (Sub.cons rfl (Sub.cons rfl (Sub.cons rfl (Sub.cons rfl (Sub.cons rfl (Sub.nil _))))))) (by rfl) ?_
      refine q_block_normal (q_then ?_)
      refine c_region ?_
      refine o_pure (p_move (v := .int .i64 (i : Int)) rfl) rfl rfl rfl ?_
      refine o_pure (p_addb (p := (i : Int)) (q := 1) rfl rfl (by omega)) rfl rfl rfl ?_
      refine o_pure (p_assign (v := .int .i64 ((i : Int) + 1)) rfl) rfl rfl rfl ?_
      refine o_nil ?_
      refine q_round hK6 (gone, agone, cgone, Sgone, i + 1, (⟨oc.life, (oc.entries ++ [(⟨(s.entries[i]).key, (s.entries[i]).value, (s.entries[i]).till⟩ : DEntry)])⟩ : DStore), a15_8, c15_8, S15_8) ?_ ?_ ?_ ?_
      · clear hK6
        first | exact hI.keep (by omega) (by assumption) | exact hI.drop (by omega) (by assumption)
      · (try dsimp only); omega
      · exact Sub.cons rfl (Sub.cons rfl (Sub.cons rfl (Sub.cons rfl (Sub.cons rfl (Sub.cons rfl (Sub.nil _))))))
      · exact fun _ hw => HeapIs.pick hw [1, 2, 3, 4, 5, 6] (by decide) rfl
  · simp only [decide_eq_false_iff_not, Int.not_lt] at hc7
    refine c_exit ?_
    refine q_then_exit (q_then_exit (q_block_exit (q_then ?_)))
    refine c_seq ?_
    refine c_region ?_
    refine o_pure (p_load_agg (i := 2) (vs := [.int .i64 oc.life, .slice aoc_0 oc.entries.length coc_0]) rfl rfl sh24 rfl rfl) rfl rfl rfl ?_
    refine o_pure (p_move (v := .slice agone gone.length cgone) rfl) rfl rfl rfl ?_
    refine o_storeN (i := 3) (vs := [.int .i64 oc.life, .slice aoc_0 oc.entries.length coc_0]) (cs' := [.int .i64 oc.life, .slice aoc_0 oc.entries.length coc_0]) rfl rfl rfl sz24 rfl rfl rfl rfl ?_
    refine o_pure (p_assign (v := .slice agone gone.length cgone) rfl) rfl rfl rfl ?_
    refine o_nil ?_
    refine q_then ?_
    refine c_ret ?_
    obtain ⟨hd1, hd2⟩ := hI.done (by omega)
    have hr0 : (oc.life : Int) = s.life := by
      first | exact hd2 | (rw [hd1]; done)
    have hr1 : (oc.entries : List DEntry) = Exp.live now s.entries := by
      first | exact hd2 | (rw [hd1]; done)
    have hr2 : (gone : List Int) = (Exp.over now s.entries) := by
      first | exact hd2 | (rw [hd1]; done)
    refine q_endM (p := (aoc_0, coc_0, agone, cgone)) (fun b => Soc_0 b ∨ Sgone b) (rt2 rfl (r_cell (i := 3) rfl rfl sh24 rfl) (r_tmp rfl)) (i := 5) rfl ?_ ?_ ?_
    · exact (by have hcc := congr (congr (congrArg (fun (y0 : Int) (y1 : List DEntry) (y2 : List Int) => (.tuple #[.agg #[.int .i64 y0, .slice aoc_0 y1.length coc_0], .slice agone y2.length cgone] : Value)) hr0) hr1) hr2; exact hcc)
    · intro w hw b hb; rcases hb with hb | hb
      · exact hw.above (i := 5) (j := 0) (by decide) rfl rfl b hb
      · exact hw.above (i := 5) (j := 1) (by decide) rfl rfl b hb
    · intro w hw; exact ⟨Eq.mp (congrArg (fun y => SlR tEntry _ w aoc_0 coc_0 y) hr1) (SlR.mono (fun b hb => by simp [hb]) (SlO.toR (hw.at (i := 0) rfl).here)), Eq.mp (congrArg (fun y => SlR tInt _ w agone cgone y) hr2) (SlR.mono (fun b hb => by simp [hb]) (SlO.toR (hw.at (i := 1) rfl).here))⟩
end Go.Proofs.Ytkndekkacimekaa
