/- The walks, printed by a program from the translation and a specification. -/
import Derived.Test.YtkndekkacimekaaExF
import Derived.Test.YtkndekkacimekaaExLaw2
import Derived.Test.YtkndekkacimekaaExW2
namespace Go.Proofs.Ytkndekkacimekaa
open Go.Sx Go.RowKit
set_option maxHeartbeats 8000000 in
set_option maxRecDepth 100000 in
theorem echeck_ok (s : DStore) (as_0 : Option Addr) (cs_0 : Nat) : Fn0 Try.prog 25 [.agg #[.int .i64 s.life, .slice as_0 s.entries.length cs_0]] (fun w => Rd tEntry w as_0 cs_0 s.entries) (.int .i64 (Exp.check s)) := by
  refine fn0 (nt := 56) (F0 := [(0, .agg #[.int .i64 s.life, .slice as_0 s.entries.length cs_0])]) Try.func25 rfl Try.ntmps25 rfl rfl (fun w0 hpre => ?_)
  have hs_0 := hpre
  have hlhs_0 := hs_0.2.1
  refine c_seq ?_
  refine c_region ?_
  refine o_box (v := .agg #[.int .i64 s.life, .slice as_0 s.entries.length cs_0]) rfl rfl (fun B1 => ?_)
  refine o_pure (p_assign (v := .int .i64 0) rfl) rfl rfl rfl ?_
  refine o_nil ?_
  refine q_then ?_
  refine c_seq ?_
  refine c_block ?_
  refine c_seq ?_
  refine c_region ?_
  refine o_pure (p_fieldAddr (B := B1) (j := 0) (j' := 0) rfl fo24_0 rfl) rfl rfl rfl ?_
  refine o_pure (p_load (i := 0) (v := .int .i64 s.life) rfl rfl sh3 rfl) rfl rfl rfl ?_
  refine o_pure (p_lt (p := s.life) (q := 1) rfl rfl) rfl rfl rfl ?_
  refine o_pure (p_move (v := .bool (decide (s.life < 1))) rfl) rfl rfl rfl ?_
  refine o_or (p := 14) 4 (decide (1073741824 < s.life)) ?_ ?_ ?_
  · intro hb2 hk
    simp only [decide_eq_false_iff_not, Int.not_lt] at hb2
    refine o_unguard 10 rfl rfl ?_
    refine o_pure (p_fieldAddr (B := B1) (j := 0) (j' := 0) rfl fo24_0 rfl) rfl rfl rfl ?_
    refine o_unguard 10 rfl rfl ?_
    refine o_pure (p_load (i := 0) (v := .int .i64 s.life) rfl rfl sh3 rfl) rfl rfl rfl ?_
    refine o_unguard 10 rfl rfl ?_
    refine o_pure (p_gt (p := s.life) (q := 1073741824) rfl rfl) rfl rfl rfl ?_
    refine o_pure (p_pick_false (v := .bool (decide (1073741824 < s.life))) rfl rfl) rfl rfl rfl ?_
    exact o_sub (Sub.cons rfl (Sub.skip rfl (Sub.skip rfl (Sub.skip rfl (Sub.skip rfl (Sub.skip rfl (Sub.refl _))))))) hk
  · intro hb2 hk
    refine o_guard_no rfl 10 rfl rfl rfl rfl rfl ?_
    refine o_guard_no rfl 10 rfl rfl rfl rfl rfl ?_
    refine o_guard_no rfl 10 rfl rfl rfl rfl rfl ?_
    refine o_pure (p_pick_true (u := .bool true) rfl rfl) rfl rfl rfl ?_
    exact o_sub (Sub.cons rfl (Sub.skip rfl (Sub.skip rfl (Sub.skip rfl (Sub.skip rfl (Sub.skip rfl (Sub.refl _))))))) hk
  refine o_pure (p_assign (v := .bool (decide (s.life < 1) || decide (1073741824 < s.life))) rfl) rfl rfl rfl ?_
  refine o_nil ?_
  refine q_then ?_
  refine c_cond (b := (decide (s.life < 1) || decide (1073741824 < s.life))) rfl (fun hc3 => ?_) (fun hc3 => ?_)
  · simp only [Bool.or_eq_true, decide_eq_true_eq] at hc3
    refine c_seq ?_
    refine c_region ?_
    refine o_pure (p_assign (v := .int .i64 3) rfl) rfl rfl rfl ?_
    refine o_nil ?_
    refine q_then ?_
    refine c_ret ?_
    refine q_block_ret (q_then_ret ?_)
    have hr0 : (3 : Int) = (Exp.check s) := by
      first | exact Exp.chk1 (by assumption) | exact Exp.chk2 hlife (by assumption) | exact Exp.chk3 hlife (by omega) (hI.bad (by omega) (Exp.entry_bad (by assumption))) | exact Exp.chk3 hlife (by omega) (hI.low (by omega) (Exp.entry_fine (by assumption)) (by assumption)) | exact Exp.chk3 hlife (by omega) (hI.done (by omega))
    refine q_end0 (v := .int .i64 3) (rt1 rfl (r_tmp rfl)) (i := 1) rfl ?_
    exact (by have hcc := congrArg (fun (y0 : Int) => (.int .i64 y0 : Value)) hr0; exact hcc)
  · simp only [Bool.or_eq_false_iff, decide_eq_false_iff_not, Int.not_lt] at hc3
    have hlife := hc3
    refine c_seq ?_
    refine c_region ?_
    refine o_pure (p_fieldAddr (B := B1) (j := 0) (j' := 1) rfl fo24_1 rfl) rfl rfl rfl ?_
    refine o_pure (p_load (i := 0) (v := .slice as_0 s.entries.length cs_0) rfl rfl sh22 rfl) rfl rfl rfl ?_
    refine o_pure (p_len_slice (len := s.entries.length) rfl rfl Try.underlying22) rfl rfl rfl ?_
    refine o_pure (p_gt (p := (s.entries.length : Int)) (q := 40) rfl rfl) rfl rfl rfl ?_
    refine o_pure (p_assign (v := .bool (decide (40 < (s.entries.length : Int)))) rfl) rfl rfl rfl ?_
    refine o_nil ?_
    refine q_then ?_
    refine c_cond (b := decide (40 < (s.entries.length : Int))) rfl (fun hc4 => ?_) (fun hc4 => ?_)
    · simp only [decide_eq_true_eq] at hc4
      refine c_seq ?_
      refine c_region ?_
      refine o_pure (p_assign (v := .int .i64 2) rfl) rfl rfl rfl ?_
      refine o_nil ?_
      refine q_then ?_
      refine c_ret ?_
      refine q_block_ret (q_then_ret ?_)
      have hr0 : (2 : Int) = (Exp.check s) := by
        first | exact Exp.chk1 (by assumption) | exact Exp.chk2 hlife (by assumption) | exact Exp.chk3 hlife (by omega) (hI.bad (by omega) (Exp.entry_bad (by assumption))) | exact Exp.chk3 hlife (by omega) (hI.low (by omega) (Exp.entry_fine (by assumption)) (by assumption)) | exact Exp.chk3 hlife (by omega) (hI.done (by omega))
      refine q_end0 (v := .int .i64 2) (rt1 rfl (r_tmp rfl)) (i := 1) rfl ?_
      exact (by have hcc := congrArg (fun (y0 : Int) => (.int .i64 y0 : Value)) hr0; exact hcc)
    · simp only [decide_eq_false_iff_not, Int.not_lt] at hc4
      refine c_skip ?_
      refine q_block_normal (q_then ?_)
      refine c_seq ?_
      refine c_region ?_
      refine o_pure (p_assign (v := .int .i64 (-1)) rfl) rfl rfl rfl ?_
      refine o_nil ?_
      refine q_then ?_
      refine c_seq ?_
      refine c_seq ?_
      refine c_region ?_
      refine o_pure (p_fieldAddr (B := B1) (j := 0) (j' := 1) rfl fo24_1 rfl) rfl rfl rfl ?_
      refine o_pure (p_load (i := 0) (v := .slice as_0 s.entries.length cs_0) rfl rfl sh22 rfl) rfl rfl rfl ?_
      refine o_pure (p_len_slice (len := s.entries.length) rfl rfl Try.underlying22) rfl rfl rfl ?_
      refine o_pure (p_move (v := .int .i64 0) rfl) rfl rfl rfl ?_
      refine o_nil ?_
      refine q_then ?_
      refine c_block ?_
      refine c_loop (St := Int × Nat)
        (fun ⟨last, k⟩ => [(3, .int .i64 last), (21, .slice as_0 s.entries.length cs_0), (22, .int .i64 (s.entries.length : Int)), (23, .int .i64 (k : Int))])
        (fun ⟨last, k⟩ => [box B1 [.int .i64 s.life, .slice as_0 s.entries.length cs_0] 24, base w0])
        (fun ⟨last, k⟩ => Exp.CkI s.entries last k)
        (fun ⟨last, k⟩ => s.entries.length - k)
        ((-1), 0) ?_ (Sub.cons rfl (Sub.cons rfl (Sub.cons rfl (Sub.cons rfl (Sub.nil _))))) (fun _ hw => hw) ?_
      · exact Exp.CkI.start _
      rintro ⟨last, k⟩ hI K hK5
      show SC _ _ Try.prog 56 w0 _ _ [(3, .int .i64 last), (21, .slice as_0 s.entries.length cs_0), (22, .int .i64 (s.entries.length : Int)), (23, .int .i64 (k : Int))] [box B1 [.int .i64 s.life, .slice as_0 s.entries.length cs_0] 24, base w0]
      refine c_seq ?_
      refine c_region ?_
      refine o_pure (p_lt (p := (k : Int)) (q := (s.entries.length : Int)) rfl rfl) rfl rfl rfl ?_
      refine o_nil ?_
      refine q_then ?_
      refine c_seq ?_
      refine c_cond (b := decide ((k : Int) < (s.entries.length : Int))) rfl (fun hc6 => ?_) (fun hc6 => ?_)
      · simp only [decide_eq_true_eq] at hc6
        refine c_skip ?_
        refine q_then ?_
        refine c_seq ?_
        refine c_block ?_
        refine c_seq ?_
        refine c_region ?_
        refine o_pure (p_indexAddr (L := s.entries) (T := tEntry) (i := (k : Int)) rfl rfl (rd_base (i := 1) rfl hs_0) Try.underlying22 sz42 (by omega) (by omega)) rfl rfl rfl ?_
        refine o_pure (p_loadEn (i := k) (T := tEntry) (L := s.entries) (vs := [.int .i64 ((s.entries[k]).key), .int .i64 ((s.entries[k]).value), .int .i64 ((s.entries[k]).till)]) rfl (rd_base (i := 1) rfl hs_0) (by first | assumption | omega) sh42 rfl) rfl rfl rfl ?_
        refine o_alloc ze42 rfl (fun B7 => ?_)
        refine o_storeN (i := 0) (vs := [.int .i64 ((s.entries[k]).key), .int .i64 ((s.entries[k]).value), .int .i64 ((s.entries[k]).till)]) (cs' := [.int .i64 ((s.entries[k]).key), .int .i64 ((s.entries[k]).value), .int .i64 ((s.entries[k]).till)]) rfl rfl rfl sz42 rfl rfl rfl rfl ?_
        refine o_nil ?_
        refine q_then ?_
        refine c_seq ?_
        refine c_block ?_
        refine c_seq ?_
        refine c_region ?_
        refine o_pure (p_fieldAddr (B := B7) (j := 0) (j' := 0) rfl fo42_0 rfl) rfl rfl rfl ?_
        refine o_pure (p_load (i := 0) (v := .int .i64 ((s.entries[k]).key)) rfl rfl sh3 rfl) rfl rfl rfl ?_
        refine o_call0 (v := .bool (Lru.okKey ((s.entries[k]).key))) rfl (key_ok ((s.entries[k]).key)) hf52 (fun _ _ => trivial) rfl ?_
        refine o_pure (p_not (b := (Lru.okKey ((s.entries[k]).key))) rfl) rfl rfl rfl ?_
        refine o_pure (p_move (v := .bool (!(Lru.okKey ((s.entries[k]).key)))) rfl) rfl rfl rfl ?_
        refine o_or (p := 37) 5 (!(Exp.okValue ((s.entries[k]).value))) ?_ ?_ ?_
        · intro hb8 hk
          simp only [Bool.not_eq_false'] at hb8
          refine o_unguard 32 rfl rfl ?_
          refine o_pure (p_fieldAddr (B := B7) (j := 0) (j' := 1) rfl fo42_1 rfl) rfl rfl rfl ?_
          refine o_unguard 32 rfl rfl ?_
          refine o_pure (p_load (i := 0) (v := .int .i64 ((s.entries[k]).value)) rfl rfl sh3 rfl) rfl rfl rfl ?_
          refine o_unguard 32 rfl rfl ?_
          refine o_call0 (v := .bool (Exp.okValue ((s.entries[k]).value))) rfl (evalue_ok ((s.entries[k]).value)) hf47 (fun _ _ => trivial) rfl ?_
          refine o_unguard 32 rfl rfl ?_
          refine o_pure (p_not (b := (Exp.okValue ((s.entries[k]).value))) rfl) rfl rfl rfl ?_
          refine o_pure (p_pick_false (v := .bool (!(Exp.okValue ((s.entries[k]).value)))) rfl rfl) rfl rfl rfl ?_
          exact o_sub (Sub.cons rfl (Sub.skip rfl (Sub.skip rfl (Sub.skip rfl (Sub.skip rfl (Sub.skip rfl (Sub.skip rfl (Sub.refl _)))))))) hk
        · intro hb8 hk
          refine o_guard_no rfl 32 rfl rfl rfl rfl rfl ?_
          refine o_guard_no rfl 32 rfl rfl rfl rfl rfl ?_
          refine o_guard_no rfl 32 rfl rfl rfl rfl rfl ?_
          refine o_guard_no rfl 32 rfl rfl rfl rfl rfl ?_
          refine o_pure (p_pick_true (u := .bool true) rfl rfl) rfl rfl rfl ?_
          exact o_sub (Sub.cons rfl (Sub.skip rfl (Sub.skip rfl (Sub.skip rfl (Sub.skip rfl (Sub.skip rfl (Sub.skip rfl (Sub.refl _)))))))) hk
        refine o_pure (p_move (v := .bool ((!(Lru.okKey ((s.entries[k]).key))) || (!(Exp.okValue ((s.entries[k]).value))))) rfl) rfl rfl rfl ?_
        refine o_or (p := 42) 4 (decide ((s.entries[k]).till < 0)) ?_ ?_ ?_
        · intro hb9 hk
          simp only [Bool.or_eq_false_iff, Bool.not_eq_false'] at hb9
          refine o_unguard 38 rfl rfl ?_
          refine o_pure (p_fieldAddr (B := B7) (j := 0) (j' := 2) rfl fo42_2 rfl) rfl rfl rfl ?_
          refine o_unguard 38 rfl rfl ?_
          refine o_pure (p_load (i := 0) (v := .int .i64 ((s.entries[k]).till)) rfl rfl sh3 rfl) rfl rfl rfl ?_
          refine o_unguard 38 rfl rfl ?_
          refine o_pure (p_lt (p := (s.entries[k]).till) (q := 0) rfl rfl) rfl rfl rfl ?_
          refine o_pure (p_pick_false (v := .bool (decide ((s.entries[k]).till < 0))) rfl rfl) rfl rfl rfl ?_
          exact o_sub (Sub.cons rfl (Sub.skip rfl (Sub.skip rfl (Sub.skip rfl (Sub.skip rfl (Sub.skip rfl (Sub.refl _))))))) hk
        · intro hb9 hk
          refine o_guard_no rfl 38 rfl rfl rfl rfl rfl ?_
          refine o_guard_no rfl 38 rfl rfl rfl rfl rfl ?_
          refine o_guard_no rfl 38 rfl rfl rfl rfl rfl ?_
          refine o_pure (p_pick_true (u := .bool true) rfl rfl) rfl rfl rfl ?_
          exact o_sub (Sub.cons rfl (Sub.skip rfl (Sub.skip rfl (Sub.skip rfl (Sub.skip rfl (Sub.skip rfl (Sub.refl _))))))) hk
        refine o_pure (p_move (v := .bool (((!(Lru.okKey ((s.entries[k]).key))) || (!(Exp.okValue ((s.entries[k]).value)))) || decide ((s.entries[k]).till < 0))) rfl) rfl rfl rfl ?_
        refine o_or (p := 47) 4 (decide (1100585369600 < (s.entries[k]).till)) ?_ ?_ ?_
        · intro hb10 hk
          simp only [Bool.or_eq_false_iff, Bool.not_eq_false', decide_eq_false_iff_not, Int.not_lt] at hb10
          refine o_unguard 43 rfl rfl ?_
          refine o_pure (p_fieldAddr (B := B7) (j := 0) (j' := 2) rfl fo42_2 rfl) rfl rfl rfl ?_
          refine o_unguard 43 rfl rfl ?_
          refine o_pure (p_load (i := 0) (v := .int .i64 ((s.entries[k]).till)) rfl rfl sh3 rfl) rfl rfl rfl ?_
          refine o_unguard 43 rfl rfl ?_
          refine o_pure (p_gt (p := (s.entries[k]).till) (q := 1100585369600) rfl rfl) rfl rfl rfl ?_
          refine o_pure (p_pick_false (v := .bool (decide (1100585369600 < (s.entries[k]).till))) rfl rfl) rfl rfl rfl ?_
          exact o_sub (Sub.cons rfl (Sub.skip rfl (Sub.skip rfl (Sub.skip rfl (Sub.skip rfl (Sub.skip rfl (Sub.refl _))))))) hk
        · intro hb10 hk
          refine o_guard_no rfl 43 rfl rfl rfl rfl rfl ?_
          refine o_guard_no rfl 43 rfl rfl rfl rfl rfl ?_
          refine o_guard_no rfl 43 rfl rfl rfl rfl rfl ?_
          refine o_pure (p_pick_true (u := .bool true) rfl rfl) rfl rfl rfl ?_
          exact o_sub (Sub.cons rfl (Sub.skip rfl (Sub.skip rfl (Sub.skip rfl (Sub.skip rfl (Sub.skip rfl (Sub.refl _))))))) hk
        refine o_pure (p_assign (v := .bool ((((!(Lru.okKey ((s.entries[k]).key))) || (!(Exp.okValue ((s.entries[k]).value)))) || decide ((s.entries[k]).till < 0)) || decide (1100585369600 < (s.entries[k]).till))) rfl) rfl rfl rfl ?_
        refine o_nil ?_
        refine q_then ?_
        refine c_cond (b := ((((!(Lru.okKey ((s.entries[k]).key))) || (!(Exp.okValue ((s.entries[k]).value)))) || decide ((s.entries[k]).till < 0)) || decide (1100585369600 < (s.entries[k]).till))) rfl (fun hc11 => ?_) (fun hc11 => ?_)
        · simp only [Bool.or_eq_true, Bool.not_eq_true', decide_eq_true_eq] at hc11
          refine c_seq ?_
          refine c_region ?_
          refine o_pure (p_assign (v := .int .i64 3) rfl) rfl rfl rfl ?_
          refine o_nil ?_
          refine q_then ?_
          refine c_ret ?_
          refine q_block_ret (q_then_ret (q_block_ret (q_then_ret (q_then_ret (q_block_ret (q_then_ret ?_))))))
          have hr0 : (3 : Int) = (Exp.check s) := by
            first | exact Exp.chk1 (by assumption) | exact Exp.chk2 hlife (by assumption) | exact Exp.chk3 hlife (by omega) (hI.bad (by omega) (Exp.entry_bad (by assumption))) | exact Exp.chk3 hlife (by omega) (hI.low (by omega) (Exp.entry_fine (by assumption)) (by assumption)) | exact Exp.chk3 hlife (by omega) (hI.done (by omega))
          refine q_end0 (v := .int .i64 3) (rt1 rfl (r_tmp rfl)) (i := 2) rfl ?_
          exact (by have hcc := congrArg (fun (y0 : Int) => (.int .i64 y0 : Value)) hr0; exact hcc)
        · simp only [Bool.or_eq_false_iff, Bool.not_eq_false', decide_eq_false_iff_not, Int.not_lt] at hc11
          refine c_seq ?_
          refine c_region ?_
          refine o_pure (p_fieldAddr (B := B7) (j := 0) (j' := 0) rfl fo42_0 rfl) rfl rfl rfl ?_
          refine o_pure (p_load (i := 0) (v := .int .i64 ((s.entries[k]).key)) rfl rfl sh3 rfl) rfl rfl rfl ?_
          refine o_pure (p_move (v := .int .i64 last) rfl) rfl rfl rfl ?_
          refine o_pure (p_le (p := (s.entries[k]).key) (q := last) rfl rfl) rfl rfl rfl ?_
          refine o_pure (p_assign (v := .bool (decide ((s.entries[k]).key ≤ last))) rfl) rfl rfl rfl ?_
          refine o_nil ?_
          refine q_then ?_
          refine c_cond (b := decide ((s.entries[k]).key ≤ last)) rfl (fun hc12 => ?_) (fun hc12 => ?_)
          · simp only [decide_eq_true_eq] at hc12
            refine c_seq ?_
            refine c_region ?_
            refine o_pure (p_assign (v := .int .i64 4) rfl) rfl rfl rfl ?_
            refine o_nil ?_
            refine q_then ?_
            refine c_ret ?_
            refine q_block_ret (q_then_ret (q_block_ret (q_then_ret (q_then_ret (q_block_ret (q_then_ret ?_))))))
            have hr0 : (4 : Int) = (Exp.check s) := by
              first | exact Exp.chk1 (by assumption) | exact Exp.chk2 hlife (by assumption) | exact Exp.chk3 hlife (by omega) (hI.bad (by omega) (Exp.entry_bad (by assumption))) | exact Exp.chk3 hlife (by omega) (hI.low (by omega) (Exp.entry_fine (by assumption)) (by assumption)) | exact Exp.chk3 hlife (by omega) (hI.done (by omega))
            refine q_end0 (v := .int .i64 4) (rt1 rfl (r_tmp rfl)) (i := 2) rfl ?_
            exact (by have hcc := congrArg (fun (y0 : Int) => (.int .i64 y0 : Value)) hr0; exact hcc)
          · simp only [decide_eq_false_iff_not, Int.not_le] at hc12
            refine c_skip ?_
            refine q_block_normal (q_then ?_)
            refine c_region ?_
            refine o_pure (p_fieldAddr (B := B7) (j := 0) (j' := 0) rfl fo42_0 rfl) rfl rfl rfl ?_
            refine o_pure (p_load (i := 0) (v := .int .i64 ((s.entries[k]).key)) rfl rfl sh3 rfl) rfl rfl rfl ?_
            refine o_pure (p_assign (v := .int .i64 ((s.entries[k]).key)) rfl) rfl rfl rfl ?_
            refine o_nil ?_
            refine q_block_normal (q_then ?_)
            refine c_region ?_
            refine o_pure (p_addb (p := (k : Int)) (q := 1) rfl rfl (by omega)) rfl rfl rfl ?_
            refine o_pure (p_move (v := .int .i64 ((k : Int) + 1)) rfl) rfl rfl rfl ?_
            refine o_nil ?_
            refine q_round hK5 ((s.entries[k]).key, k + 1) ?_ ?_ ?_ ?_
            · clear hK5
              exact hI.next (by omega) (Exp.entry_fine (by assumption)) (by assumption)
            · (try dsimp only); omega
            · exact Sub.cons rfl (Sub.cons rfl (Sub.cons rfl (Sub.cons rfl (Sub.nil _))))
            · exact fun _ hw => HeapIs.pick hw [1, 2] (by decide) rfl
      · simp only [decide_eq_false_iff_not, Int.not_lt] at hc6
        refine c_exit ?_
        refine q_then_exit (q_then_exit (q_block_exit (q_then ?_)))
        refine c_seq ?_
        refine c_region ?_
        refine o_pure (p_assign (v := .int .i64 0) rfl) rfl rfl rfl ?_
        refine o_nil ?_
        refine q_then ?_
        refine c_ret ?_
        have hr0 : (0 : Int) = (Exp.check s) := by
          first | exact Exp.chk1 (by assumption) | exact Exp.chk2 hlife (by assumption) | exact Exp.chk3 hlife (by omega) (hI.bad (by omega) (Exp.entry_bad (by assumption))) | exact Exp.chk3 hlife (by omega) (hI.low (by omega) (Exp.entry_fine (by assumption)) (by assumption)) | exact Exp.chk3 hlife (by omega) (hI.done (by omega))
        refine q_end0 (v := .int .i64 0) (rt1 rfl (r_tmp rfl)) (i := 1) rfl ?_
        exact (by have hcc := congrArg (fun (y0 : Int) => (.int .i64 y0 : Value)) hr0; exact hcc)

set_option maxHeartbeats 8000000 in
set_option maxRecDepth 100000 in
theorem eswept_ok (s : DStore) (as_0 : Option Addr) (cs_0 : Nat) (now : Int) (hy1 : s.entries.length ≤ 40) : FnX Try.prog 48 [.agg #[.int .i64 s.life, .slice as_0 s.entries.length cs_0], .int .i64 now] [] (fun w => SlR tEntry (outer w []).S w as_0 cs_0 s.entries) (Option Addr × Nat × (Nat → Prop) × Option Addr × Nat × (Nat → Prop)) (fun p => .tuple #[.agg #[.int .i64 s.life, .slice p.1 (Exp.live now s.entries).length p.2.1], .slice p.2.2.2.1 (Exp.over now s.entries).length p.2.2.2.2.1]) (fun p => [own tEntry p.2.2.1 p.1 p.2.1 (Exp.live now s.entries), own tInt p.2.2.2.2.2 p.2.2.2.1 p.2.2.2.2.1 (Exp.over now s.entries)]) := by
  refine fnX (nt := 38) (F0 := [(0, .agg #[.int .i64 s.life, .slice as_0 s.entries.length cs_0]), (1, .int .i64 now)]) Try.func48 rfl Try.ntmps48 rfl rfl (fun w0 hpre => ?_)
  have hs_0 := hpre
  have hlhs_0 := hs_0.2.1
  refine c_seq ?_
  refine c_region ?_
  refine o_box (v := .agg #[.int .i64 s.life, .slice as_0 s.entries.length cs_0]) rfl rfl (fun B1 => ?_)
  refine o_alloc ze24 rfl (fun B2 => ?_)
  refine o_pure (p_assign (v := .slice none 0 0) rfl) rfl rfl rfl ?_
  refine o_nil ?_
  refine q_then ?_
  refine c_seq ?_
  refine c_region ?_
  refine o_pure (p_fieldAddr (B := B1) (j := 0) (j' := 0) rfl fo24_0 rfl) rfl rfl rfl ?_
  refine o_pure (p_load (i := 1) (v := .int .i64 s.life) rfl rfl sh3 rfl) rfl rfl rfl ?_
  refine o_pure (p_build (cells := [.int .i64 s.life, .slice none 0 0]) fp24 ze24 rfl rfl) rfl rfl rfl ?_
  refine o_alloc ze24 rfl (fun B3 => ?_)
  refine o_storeN (i := 0) (vs := [.int .i64 s.life, .slice none 0 0]) (cs' := [.int .i64 s.life, .slice none 0 0]) rfl rfl rfl sz24 rfl rfl rfl rfl ?_
  refine o_nil ?_
  refine q_then ?_
  refine c_seq ?_
  refine c_region ?_
  refine o_pure (p_assign (v := .slice none 0 0) rfl) rfl rfl rfl ?_
  refine o_nil ?_
  refine q_then ?_
  refine c_seq ?_
  refine c_seq ?_
  refine c_region ?_
  refine o_pure (p_fieldAddr (B := B1) (j := 0) (j' := 1) rfl fo24_1 rfl) rfl rfl rfl ?_
  refine o_pure (p_load (i := 2) (v := .slice as_0 s.entries.length cs_0) rfl rfl sh22 rfl) rfl rfl rfl ?_
  refine o_pure (p_len_slice (len := s.entries.length) rfl rfl Try.underlying22) rfl rfl rfl ?_
  refine o_pure (p_move (v := .int .i64 0) rfl) rfl rfl rfl ?_
  refine o_nil ?_
  refine q_then ?_
  refine c_block ?_
  refine c_ownNil tInt ?_
  refine c_ownNil tEntry ?_
  refine c_loop (St := List Int × Option Addr × Nat × (Nat → Prop) × Nat × DStore × Option Addr × Nat × (Nat → Prop))
    (fun ⟨gone, agone, cgone, Sgone, k, oc, aoc_0, coc_0, Soc_0⟩ => [(1, .int .i64 now), (4, .pointer (some ⟨B2, 0, none⟩)), (6, .pointer (some ⟨B3, 0, none⟩)), (7, .slice agone gone.length cgone), (14, .slice as_0 s.entries.length cs_0), (15, .int .i64 (s.entries.length : Int)), (16, .int .i64 (k : Int))])
    (fun ⟨gone, agone, cgone, Sgone, k, oc, aoc_0, coc_0, Soc_0⟩ => [own tEntry Soc_0 aoc_0 coc_0 oc.entries, own tInt Sgone agone cgone gone, box B3 [.int .i64 oc.life, .slice aoc_0 oc.entries.length coc_0] 24, box B2 [.int .i64 0, .slice none 0 0] 24, box B1 [.int .i64 s.life, .slice as_0 s.entries.length cs_0] 24, outer w0 []])
    (fun ⟨gone, agone, cgone, Sgone, k, oc, aoc_0, coc_0, Soc_0⟩ => Exp.SwI s now oc gone k)
    (fun ⟨gone, agone, cgone, Sgone, k, oc, aoc_0, coc_0, Soc_0⟩ => s.entries.length - k)
    ([], none, 0, (fun _ => False), 0, (⟨s.life, []⟩ : DStore), none, 0, (fun _ => False)) ?_ (Sub.cons rfl (Sub.cons rfl (Sub.cons rfl (Sub.cons rfl (Sub.cons rfl (Sub.cons rfl (Sub.cons rfl (Sub.nil _)))))))) (fun _ hw => hw) ?_
  · exact Exp.SwI.start _ _
  rintro ⟨gone, agone, cgone, Sgone, k, oc, aoc_0, coc_0, Soc_0⟩ hI K hK6
  have hsl := hI.lens
  have hsk := hI.le
  show SC _ _ Try.prog 38 w0 _ _ [(1, .int .i64 now), (4, .pointer (some ⟨B2, 0, none⟩)), (6, .pointer (some ⟨B3, 0, none⟩)), (7, .slice agone gone.length cgone), (14, .slice as_0 s.entries.length cs_0), (15, .int .i64 (s.entries.length : Int)), (16, .int .i64 (k : Int))] [own tEntry Soc_0 aoc_0 coc_0 oc.entries, own tInt Sgone agone cgone gone, box B3 [.int .i64 oc.life, .slice aoc_0 oc.entries.length coc_0] 24, box B2 [.int .i64 0, .slice none 0 0] 24, box B1 [.int .i64 s.life, .slice as_0 s.entries.length cs_0] 24, outer w0 []]
  refine c_seq ?_
  refine c_region ?_
  refine o_pure (p_lt (p := (k : Int)) (q := (s.entries.length : Int)) rfl rfl) rfl rfl rfl ?_
  refine o_nil ?_
  refine q_then ?_
  refine c_seq ?_
  refine c_cond (b := decide ((k : Int) < (s.entries.length : Int))) rfl (fun hc7 => ?_) (fun hc7 => ?_)
  · simp only [decide_eq_true_eq] at hc7
    refine c_skip ?_
    refine q_then ?_
    refine c_seq ?_
    refine c_block ?_
    refine c_seq ?_
    refine c_region ?_
    refine o_pure (p_indexAddr (L := s.entries) (T := tEntry) (i := (k : Int)) rfl rfl (rd_outer (i := 5) rfl hs_0) Try.underlying22 sz42 (by omega) (by omega)) rfl rfl rfl ?_
    refine o_pure (p_loadEn (i := k) (T := tEntry) (L := s.entries) (vs := [.int .i64 ((s.entries[k]).key), .int .i64 ((s.entries[k]).value), .int .i64 ((s.entries[k]).till)]) rfl (rd_outer (i := 5) rfl hs_0) (by first | assumption | omega) sh42 rfl) rfl rfl rfl ?_
    refine o_alloc ze42 rfl (fun B8 => ?_)
    refine o_storeN (i := 0) (vs := [.int .i64 ((s.entries[k]).key), .int .i64 ((s.entries[k]).value), .int .i64 ((s.entries[k]).till)]) (cs' := [.int .i64 ((s.entries[k]).key), .int .i64 ((s.entries[k]).value), .int .i64 ((s.entries[k]).till)]) rfl rfl rfl sz42 rfl rfl rfl rfl ?_
    refine o_nil ?_
    refine q_then ?_
    refine c_seq ?_
    refine c_region ?_
    refine o_pure (p_fieldAddr (B := B8) (j := 0) (j' := 2) rfl fo42_2 rfl) rfl rfl rfl ?_
    refine o_pure (p_load (i := 0) (v := .int .i64 ((s.entries[k]).till)) rfl rfl sh3 rfl) rfl rfl rfl ?_
    refine o_pure (p_move (v := .int .i64 now) rfl) rfl rfl rfl ?_
    refine o_pure (p_gt (p := (s.entries[k]).till) (q := now) rfl rfl) rfl rfl rfl ?_
    refine o_nil ?_
    refine q_then ?_
    refine c_cond (b := decide (now < (s.entries[k]).till)) rfl (fun hc9 => ?_) (fun hc9 => ?_)
    · simp only [decide_eq_true_eq] at hc9
      refine c_region ?_
      refine o_pure (p_fieldAddr (B := B3) (j := 0) (j' := 1) rfl fo24_1 rfl) rfl rfl rfl ?_
      refine o_pure (p_load (i := 3) (v := .slice aoc_0 oc.entries.length coc_0) rfl rfl sh22 rfl) rfl rfl rfl ?_
      refine o_pure (p_load_agg (i := 0) (vs := [.int .i64 ((s.entries[k]).key), .int .i64 ((s.entries[k]).value), .int .i64 ((s.entries[k]).till)]) rfl rfl sh42 rfl rfl) rfl rfl rfl ?_
      refine o_buildSlice (m := 1) (T := tEntry) (L := [(⟨(s.entries[k]).key, (s.entries[k]).value, (s.entries[k]).till⟩ : DEntry)]) (vs := [.agg #[.int .i64 ((s.entries[k]).key), .int .i64 ((s.entries[k]).value), .int .i64 ((s.entries[k]).till)]]) rfl rfl rfl rfl Try.underlying22 sz42 (by decide) ze42 rfl (by decide) rfl (fun S10 a11 => ?_)
      refine o_append (i := 2) (L := oc.entries) (M := [(⟨(s.entries[k]).key, (s.entries[k]).value, (s.entries[k]).till⟩ : DEntry)]) (T := tEntry) rfl rfl rfl (rd_own (i := 0) rfl) Try.underlying22 Try.underlying22 (by intro k h; cases h) el42 (by intro z; simp [tEntry, one1]) (by decide) (by first | omega | (simp only [List.length_cons, List.length_nil]; omega) | (simp only [List.length_append, List.length_cons, List.length_nil, List.length_take, List.length_drop]; omega)) rfl (fun a13 c14 S15 => ?_)
      refine o_pure (p_fieldAddr (B := B3) (j := 0) (j' := 1) rfl fo24_1 rfl) rfl rfl rfl ?_
      refine o_store (i := 4) (v := .slice a13 (oc.entries ++ [(⟨(s.entries[k]).key, (s.entries[k]).value, (s.entries[k]).till⟩ : DEntry)]).length c14) (cs' := [.int .i64 oc.life, .slice a13 (oc.entries ++ [(⟨(s.entries[k]).key, (s.entries[k]).value, (s.entries[k]).till⟩ : DEntry)]).length c14]) rfl rfl rfl sz22 rfl rfl rfl ?_
      refine o_nil ?_
      refine q_block_normal (q_then ?_)
      refine c_region ?_
      refine o_pure (p_addb (p := (k : Int)) (q := 1) rfl rfl (by omega)) rfl rfl rfl ?_
      refine o_pure (p_move (v := .int .i64 ((k : Int) + 1)) rfl) rfl rfl rfl ?_
      refine o_nil ?_
      refine q_round hK6 (gone, agone, cgone, Sgone, k + 1, (⟨oc.life, (oc.entries ++ [(⟨(s.entries[k]).key, (s.entries[k]).value, (s.entries[k]).till⟩ : DEntry)])⟩ : DStore), a13, c14, S15) ?_ ?_ ?_ ?_
      · clear hK6
        first | exact hI.keep (by omega) (by assumption) | exact hI.drop (by omega) (by assumption)
      · (try dsimp only); omega
      · exact Sub.cons rfl (Sub.cons rfl (Sub.cons rfl (Sub.cons rfl (Sub.cons rfl (Sub.cons rfl (Sub.cons rfl (Sub.nil _)))))))
      · exact fun _ hw => HeapIs.pick hw [2, 3, 4, 5, 6, 7] (by decide) rfl
    · simp only [decide_eq_false_iff_not, Int.not_lt] at hc9
      refine c_region ?_
      refine o_pure (p_move (v := .slice agone gone.length cgone) rfl) rfl rfl rfl ?_
      refine o_pure (p_fieldAddr (B := B8) (j := 0) (j' := 0) rfl fo42_0 rfl) rfl rfl rfl ?_
      refine o_pure (p_load (i := 0) (v := .int .i64 ((s.entries[k]).key)) rfl rfl sh3 rfl) rfl rfl rfl ?_
      refine o_buildSlice (m := 1) (T := tInt) (L := [(s.entries[k]).key]) (vs := [.int .i64 ((s.entries[k]).key)]) rfl rfl rfl rfl Try.underlying30 sz3 (by decide) ze3 rfl (by decide) rfl (fun S16 a17 => ?_)
      refine o_append (i := 3) (L := gone) (M := [(s.entries[k]).key]) (T := tInt) rfl rfl rfl (rd_own (i := 0) rfl) Try.underlying30 Try.underlying30 (by intro k h; cases h) el3 (by intro z; simp [tInt, one1]) (by decide) (by first | omega | (simp only [List.length_cons, List.length_nil]; omega) | (simp only [List.length_append, List.length_cons, List.length_nil, List.length_take, List.length_drop]; omega)) rfl (fun a19 c20 S21 => ?_)
      refine o_pure (p_assign (v := .slice a19 (gone ++ [(s.entries[k]).key]).length c20) rfl) rfl rfl rfl ?_
      refine o_nil ?_
      refine q_block_normal (q_then ?_)
      refine c_region ?_
      refine o_pure (p_addb (p := (k : Int)) (q := 1) rfl rfl (by omega)) rfl rfl rfl ?_
      refine o_pure (p_move (v := .int .i64 ((k : Int) + 1)) rfl) rfl rfl rfl ?_
      refine o_nil ?_
      refine q_round hK6 ((gone ++ [(s.entries[k]).key]), a19, c20, S21, k + 1, oc, aoc_0, coc_0, Soc_0) ?_ ?_ ?_ ?_
      · clear hK6
        first | exact hI.keep (by omega) (by assumption) | exact hI.drop (by omega) (by assumption)
      · (try dsimp only); omega
      · exact Sub.cons rfl (Sub.cons rfl (Sub.cons rfl (Sub.cons rfl (Sub.cons rfl (Sub.cons rfl (Sub.cons rfl (Sub.nil _)))))))
      · exact fun _ hw => HeapIs.pick hw [2, 3, 4, 5, 6, 7] (by decide) rfl
  · simp only [decide_eq_false_iff_not, Int.not_lt] at hc7
    refine c_exit ?_
    refine q_then_exit (q_then_exit (q_block_exit (q_then ?_)))
    refine c_seq ?_
    refine c_region ?_
    refine o_pure (p_load_agg (i := 2) (vs := [.int .i64 oc.life, .slice aoc_0 oc.entries.length coc_0]) rfl rfl sh24 rfl rfl) rfl rfl rfl ?_
    refine o_pure (p_move (v := .slice agone gone.length cgone) rfl) rfl rfl rfl ?_
    refine o_storeN (i := 3) (vs := [.int .i64 oc.life, .slice aoc_0 oc.entries.length coc_0]) (cs' := [.int .i64 oc.life, .slice aoc_0 oc.entries.length coc_0]) rfl rfl rfl sz24 rfl rfl rfl rfl ?_
    refine o_pure (p_assign (v := .slice agone gone.length cgone) rfl) rfl rfl rfl ?_
    refine o_nil ?_
    refine q_then ?_
    refine c_ret ?_
    obtain ⟨hd1, hd2⟩ := hI.done (by omega)
    have hr0 : (oc.life : Int) = s.life := by
      first | exact hd2 | (rw [hd1]; done)
    have hr1 : (oc.entries : List DEntry) = Exp.live now s.entries := by
      first | exact hd2 | (rw [hd1]; done)
    have hr2 : (gone : List Int) = (Exp.over now s.entries) := by
      first | exact hd2 | (rw [hd1]; done)
    refine q_endX (p := (aoc_0, coc_0, Soc_0, agone, cgone, Sgone)) (rt2 rfl (r_cell (i := 3) rfl rfl sh24 rfl) (r_tmp rfl)) ?_ (fun w hw => ?_)
    · exact (by have hcc := congr (congr (congrArg (fun (y0 : Int) (y1 : List DEntry) (y2 : List Int) => (.tuple #[.agg #[.int .i64 y0, .slice aoc_0 y1.length coc_0], .slice agone y2.length cgone] : Value)) hr0) hr1) hr2; exact hcc)
    · have h2 := hw.pick (H' := [outer w0 [], own tEntry Soc_0 aoc_0 coc_0 oc.entries, own tInt Sgone agone cgone gone]) [5, 0, 1] (by decide) rfl
      exact Eq.mp (congrArg (fun z => HeapIs w0 ((outer w0 []) :: z) w) ((by have hcc := congr (congr (congrArg (fun (y0 : Int) (y1 : List DEntry) (y2 : List Int) => ([own tEntry Soc_0 aoc_0 coc_0 y1, own tInt Sgone agone cgone y2] : List Ent)) hr0) hr1) hr2; exact hcc))) h2

set_option maxHeartbeats 8000000 in
set_option maxRecDepth 100000 in
theorem enow_ok (s : DStore) (as_0 : Option Addr) (cs_0 : Nat) (now : Int) : Fn0 Try.prog 51 [.agg #[.int .i64 s.life, .slice as_0 s.entries.length cs_0], .int .i64 now] (fun w => Rd tEntry w as_0 cs_0 s.entries) (.int .i64 (Exp.nowErr s now)) := by
  refine fn0 (nt := 16) (F0 := [(0, .agg #[.int .i64 s.life, .slice as_0 s.entries.length cs_0]), (1, .int .i64 now)]) Try.func51 rfl Try.ntmps51 rfl rfl (fun w0 hpre => ?_)
  have hs_0 := hpre
  have hlhs_0 := hs_0.2.1
  refine c_seq ?_
  refine c_region ?_
  refine o_box (v := .agg #[.int .i64 s.life, .slice as_0 s.entries.length cs_0]) rfl rfl (fun B1 => ?_)
  refine o_pure (p_assign (v := .int .i64 0) rfl) rfl rfl rfl ?_
  refine o_nil ?_
  refine q_then ?_
  refine c_seq ?_
  refine c_region ?_
  refine o_pure (p_load_agg (i := 0) (vs := [.int .i64 s.life, .slice as_0 s.entries.length cs_0]) rfl rfl sh24 rfl rfl) rfl rfl rfl ?_
  refine o_call0 (v := .int .i64 (Exp.check s)) rfl (echeck_ok s as_0 cs_0) hf25 (fun w hw => (rd_base (i := 1) rfl hs_0) w hw) rfl ?_
  refine o_pure (p_assign (v := .int .i64 (Exp.check s)) rfl) rfl rfl rfl ?_
  refine o_nil ?_
  refine q_then ?_
  refine c_seq ?_
  refine c_seq ?_
  refine c_region ?_
  refine o_pure (p_move (v := .int .i64 (Exp.check s)) rfl) rfl rfl rfl ?_
  refine o_pure (p_eq (p := (Exp.check s)) (q := 0) rfl rfl) rfl rfl rfl ?_
  refine o_pure (p_move (v := .bool ((Exp.check s) == 0)) rfl) rfl rfl rfl ?_
  refine o_and (p := 14) 4 (!(Exp.okNow now)) ?_ ?_ ?_
  · intro hb2 hk
    simp only [beq_iff_eq] at hb2
    refine o_unguard 10 rfl rfl ?_
    refine o_pure (p_move (v := .int .i64 now) rfl) rfl rfl rfl ?_
    refine o_unguard 10 rfl rfl ?_
    refine o_call0 (v := .bool (Exp.okNow now)) rfl (etick_ok now) hf84 (fun _ _ => trivial) rfl ?_
    refine o_unguard 10 rfl rfl ?_
    refine o_pure (p_not (b := (Exp.okNow now)) rfl) rfl rfl rfl ?_
    refine o_pure (p_pick_true (u := .bool (!(Exp.okNow now))) rfl rfl) rfl rfl rfl ?_
    exact o_sub (Sub.cons rfl (Sub.skip rfl (Sub.skip rfl (Sub.skip rfl (Sub.skip rfl (Sub.skip rfl (Sub.refl _))))))) hk
  · intro hb2 hk
    refine o_guard_no rfl 10 rfl rfl rfl rfl rfl ?_
    refine o_guard_no rfl 10 rfl rfl rfl rfl rfl ?_
    refine o_guard_no rfl 10 rfl rfl rfl rfl rfl ?_
    refine o_pure (p_pick_false (v := .bool false) rfl rfl) rfl rfl rfl ?_
    exact o_sub (Sub.cons rfl (Sub.skip rfl (Sub.skip rfl (Sub.skip rfl (Sub.skip rfl (Sub.skip rfl (Sub.refl _))))))) hk
  refine o_nil ?_
  refine q_then ?_
  refine c_cond (b := (((Exp.check s) == 0) && (!(Exp.okNow now)))) rfl (fun hc3 => ?_) (fun hc3 => ?_)
  · simp only [Bool.and_eq_true, beq_iff_eq, Bool.not_eq_true'] at hc3
    refine c_region ?_
    refine o_pure (p_assign (v := .int .i64 3) rfl) rfl rfl rfl ?_
    refine o_nil ?_
    refine q_then ?_
    refine c_seq ?_
    refine c_region ?_
    refine o_pure (p_move (v := .int .i64 3) rfl) rfl rfl rfl ?_
    refine o_pure (p_assign (v := .int .i64 3) rfl) rfl rfl rfl ?_
    refine o_nil ?_
    refine q_then ?_
    refine c_ret ?_
    have hr0 : (3 : Int) = (Exp.nowErr s now) := by
      rcases Exp.now_cases s now with ⟨a, b⟩ | ⟨a, b, d⟩ | ⟨a, b, d⟩ <;> first | (exfalso; omega) | (exfalso; simp_all; done) | omega | simp_all
    refine q_end0 (v := .int .i64 3) (rt1 rfl (r_tmp rfl)) (i := 1) rfl ?_
    exact (by have hcc := congrArg (fun (y0 : Int) => (.int .i64 y0 : Value)) hr0; exact hcc)
  · simp only [Bool.and_eq_false_iff, beq_eq_false_iff_ne, ne_eq, Bool.not_eq_false'] at hc3
    have hro := hc3
    refine c_skip ?_
    refine q_then ?_
    refine c_seq ?_
    refine c_region ?_
    refine o_pure (p_move (v := .int .i64 (Exp.check s)) rfl) rfl rfl rfl ?_
    refine o_pure (p_assign (v := .int .i64 (Exp.check s)) rfl) rfl rfl rfl ?_
    refine o_nil ?_
    refine q_then ?_
    refine c_ret ?_
    have hr0 : ((Exp.check s) : Int) = (Exp.nowErr s now) := by
      rcases Exp.now_cases s now with ⟨a, b⟩ | ⟨a, b, d⟩ | ⟨a, b, d⟩ <;> first | (exfalso; omega) | (exfalso; simp_all; done) | omega | simp_all
    refine q_end0 (v := .int .i64 (Exp.check s)) (rt1 rfl (r_tmp rfl)) (i := 1) rfl ?_
    exact (by have hcc := congrArg (fun (y0 : Int) => (.int .i64 y0 : Value)) hr0; exact hcc)

set_option maxHeartbeats 8000000 in
set_option maxRecDepth 100000 in
theorem esweep_ok (s : DStore) (as_0 : Option Addr) (cs_0 : Nat) (now : Int) : FnM Try.prog 17 [.agg #[.int .i64 s.life, .slice as_0 s.entries.length cs_0], .int .i64 now] (fun w => Rd tEntry w as_0 cs_0 s.entries) (Option Addr × Nat × Option Addr × Nat) (fun p => .tuple #[.agg #[.int .i64 (((Exp.sweep s now).1).life), .slice p.1 (((Exp.sweep s now).1).entries).length p.2.1], .slice p.2.2.1 ((Exp.sweep s now).2).length p.2.2.2, .int .i64 (Exp.nowErr s now)]) (fun p S w => SlR tEntry S w p.1 p.2.1 (((Exp.sweep s now).1).entries) ∧ SlR tInt S w p.2.2.1 p.2.2.2 ((Exp.sweep s now).2)) := by
  refine fnM (nt := 25) (F0 := [(0, .agg #[.int .i64 s.life, .slice as_0 s.entries.length cs_0]), (1, .int .i64 now)]) Try.func17 rfl Try.ntmps17 rfl rfl (fun w0 hpre => ?_)
  have hs_0 := hpre
  have hlhs_0 := hs_0.2.1
  refine c_seq ?_
  refine c_region ?_
  refine o_box (v := .agg #[.int .i64 s.life, .slice as_0 s.entries.length cs_0]) rfl rfl (fun B1 => ?_)
  refine o_alloc ze24 rfl (fun B2 => ?_)
  refine o_pure (p_assign (v := .slice none 0 0) rfl) rfl rfl rfl ?_
  refine o_pure (p_assign (v := .int .i64 0) rfl) rfl rfl rfl ?_
  refine o_nil ?_
  refine q_then ?_
  refine c_seq ?_
  refine c_seq ?_
  refine c_region ?_
  refine o_pure (p_load_agg (i := 1) (vs := [.int .i64 s.life, .slice as_0 s.entries.length cs_0]) rfl rfl sh24 rfl rfl) rfl rfl rfl ?_
  refine o_pure (p_move (v := .int .i64 now) rfl) rfl rfl rfl ?_
  refine o_call0 (v := .int .i64 (Exp.nowErr s now)) rfl (enow_ok s as_0 cs_0 now) hf51 (fun w hw => (rd_base (i := 2) rfl hs_0) w hw) rfl ?_
  refine o_pure (p_assign (v := .int .i64 (Exp.nowErr s now)) rfl) rfl rfl rfl ?_
  refine o_nil ?_
  refine q_then ?_
  refine c_seq ?_
  refine c_region ?_
  refine o_pure (p_move (v := .int .i64 (Exp.nowErr s now)) rfl) rfl rfl rfl ?_
  refine o_pure (p_ne (p := (Exp.nowErr s now)) (q := 0) rfl rfl) rfl rfl rfl ?_
  refine o_nil ?_
  refine q_then ?_
  refine c_cond (b := ((Exp.nowErr s now) != 0)) rfl (fun hc3 => ?_) (fun hc3 => ?_)
  · simp only [bne_iff_ne, ne_eq] at hc3
    refine c_seq ?_
    refine c_region ?_
    refine o_pure (p_build (cells := [.int .i64 0, .slice none 0 0]) fp24 ze24 rfl rfl) rfl rfl rfl ?_
    refine o_pure (p_move (v := .int .i64 (Exp.nowErr s now)) rfl) rfl rfl rfl ?_
    refine o_storeN (i := 0) (vs := [.int .i64 0, .slice none 0 0]) (cs' := [.int .i64 0, .slice none 0 0]) rfl rfl rfl sz24 rfl rfl rfl rfl ?_
    refine o_pure (p_assign (v := .slice none 0 0) rfl) rfl rfl rfl ?_
    refine o_pure (p_assign (v := .int .i64 (Exp.nowErr s now)) rfl) rfl rfl rfl ?_
    refine o_nil ?_
    refine q_then ?_
    refine c_ret ?_
    refine q_then_ret ?_
    have hs := by first | exact Exp.sweep1 (s := s) (now := now) (by assumption) | exact Exp.sweep2 (s := s) (now := now) (by assumption)
    have hr0 : (0 : Int) = ((Exp.sweep s now).1).life := by
      first | (rw [hs]; done) | (rw [hs]; rfl) | (symm; assumption) | rfl
    have hr1 : ([] : List DEntry) = ((Exp.sweep s now).1).entries := by
      first | (rw [hs]; done) | (rw [hs]; rfl) | (symm; assumption) | rfl
    have hr2 : ([] : List Int) = ((Exp.sweep s now).2) := by
      first | (rw [hs]; done) | (rw [hs]; rfl) | (symm; assumption) | rfl
    refine q_endM (p := (none, 0, none, 0)) (fun _ => False) (rt3 rfl (r_cell (i := 0) rfl rfl sh24 rfl) (r_tmp rfl) (r_tmp rfl)) (i := 2) rfl ?_ ?_ ?_
    · exact (by have hcc := congr (congr (congrArg (fun (y0 : Int) (y1 : List DEntry) (y2 : List Int) => (.tuple #[.agg #[.int .i64 y0, .slice none y1.length 0], .slice none y2.length 0, .int .i64 (Exp.nowErr s now)] : Value)) hr0) hr1) hr2; exact hcc)
    · intro w hw b hb; exact hb.elim
    · intro w hw; exact ⟨Eq.mp (congrArg (fun y => SlR tEntry _ w none 0 y) hr1) (SlR.nil tEntry _ w), Eq.mp (congrArg (fun y => SlR tInt _ w none 0 y) hr2) (SlR.nil tInt _ w)⟩
  · simp only [bne_eq_false_iff_eq] at hc3
    have hok := (Exp.now_ok hc3).1
    have hlen := hok.len
    refine c_skip ?_
    refine q_then ?_
    refine c_seq ?_
    refine c_region ?_
    refine o_pure (p_load_agg (i := 1) (vs := [.int .i64 s.life, .slice as_0 s.entries.length cs_0]) rfl rfl sh24 rfl rfl) rfl rfl rfl ?_
    refine o_pure (p_move (v := .int .i64 now) rfl) rfl rfl rfl ?_
    refine o_callX (pre := []) (R := [box B2 [.int .i64 0, .slice none 0 0] 24, box B1 [.int .i64 s.life, .slice as_0 s.entries.length cs_0] 24, base w0]) rfl (eswept_ok s as_0 cs_0 now (by omega)) hf48 rfl (fun w hw => (rdX (i := 2) (js := []) rfl (by decide) rfl (fun _ hA => slR_base hs_0 hA)) w hw) rfl ?_
    rintro ⟨a4, c5, S6, a7, c8, S9⟩
    refine o_asH (H' := [own tEntry S6 a4 c5 (Exp.live now s.entries), own tInt S9 a7 c8 (Exp.over now s.entries), box B2 [.int .i64 0, .slice none 0 0] 24, box B1 [.int .i64 s.life, .slice as_0 s.entries.length cs_0] 24, base w0]) rfl ?_
    refine o_pure (p_move (v := .tuple #[.agg #[.int .i64 s.life, .slice a4 (Exp.live now s.entries).length c5], .slice a7 (Exp.over now s.entries).length c8]) rfl) rfl rfl rfl ?_
    refine o_pure (p_extract (vs := [.agg #[.int .i64 s.life, .slice a4 (Exp.live now s.entries).length c5], .slice a7 (Exp.over now s.entries).length c8]) (v := .agg #[.int .i64 s.life, .slice a4 (Exp.live now s.entries).length c5]) rfl rfl) rfl rfl rfl ?_
    refine o_pure (p_extract (vs := [.agg #[.int .i64 s.life, .slice a4 (Exp.live now s.entries).length c5], .slice a7 (Exp.over now s.entries).length c8]) (v := .slice a7 (Exp.over now s.entries).length c8) rfl rfl) rfl rfl rfl ?_
    refine o_alloc ze24 rfl (fun B12 => ?_)
    refine o_storeN (i := 0) (vs := [.int .i64 s.life, .slice a4 (Exp.live now s.entries).length c5]) (cs' := [.int .i64 s.life, .slice a4 (Exp.live now s.entries).length c5]) rfl rfl rfl sz24 rfl rfl rfl rfl ?_
    refine o_pure (p_assign (v := .slice a7 (Exp.over now s.entries).length c8) rfl) rfl rfl rfl ?_
    refine o_nil ?_
    refine q_then ?_
    refine c_seq ?_
    refine c_region ?_
    refine o_pure (p_load_agg (i := 0) (vs := [.int .i64 s.life, .slice a4 (Exp.live now s.entries).length c5]) rfl rfl sh24 rfl rfl) rfl rfl rfl ?_
    refine o_pure (p_move (v := .slice a7 (Exp.over now s.entries).length c8) rfl) rfl rfl rfl ?_
    refine o_storeN (i := 3) (vs := [.int .i64 s.life, .slice a4 (Exp.live now s.entries).length c5]) (cs' := [.int .i64 s.life, .slice a4 (Exp.live now s.entries).length c5]) rfl rfl rfl sz24 rfl rfl rfl rfl ?_
    refine o_pure (p_assign (v := .slice a7 (Exp.over now s.entries).length c8) rfl) rfl rfl rfl ?_
    refine o_pure (p_assign (v := .int .i64 0) rfl) rfl rfl rfl ?_
    refine o_nil ?_
    refine q_then ?_
    refine c_ret ?_
    have hs := by first | exact Exp.sweep1 (s := s) (now := now) (by assumption) | exact Exp.sweep2 (s := s) (now := now) (by assumption)
    have hr0 : (s.life : Int) = ((Exp.sweep s now).1).life := by
      first | (rw [hs]; done) | (rw [hs]; rfl) | (symm; assumption) | rfl
    have hr1 : (Exp.live now s.entries : List DEntry) = ((Exp.sweep s now).1).entries := by
      first | (rw [hs]; done) | (rw [hs]; rfl) | (symm; assumption) | rfl
    have hr2 : ((Exp.over now s.entries) : List Int) = ((Exp.sweep s now).2) := by
      first | (rw [hs]; done) | (rw [hs]; rfl) | (symm; assumption) | rfl
    have hr3 : (0 : Int) = (Exp.nowErr s now) := by
      first | (rw [hs]; done) | (rw [hs]; rfl) | (symm; assumption) | rfl
    refine q_endM (p := (a4, c5, a7, c8)) (fun b => S6 b ∨ S9 b) (rt3 rfl (r_cell (i := 3) rfl rfl sh24 rfl) (r_tmp rfl) (r_tmp rfl)) (i := 5) rfl ?_ ?_ ?_
    · exact (by have hcc := congr (congr (congr (congrArg (fun (y0 : Int) (y1 : List DEntry) (y2 : List Int) (y3 : Int) => (.tuple #[.agg #[.int .i64 y0, .slice a4 y1.length c5], .slice a7 y2.length c8, .int .i64 y3] : Value)) hr0) hr1) hr2) hr3; exact hcc)
    · intro w hw b hb; rcases hb with hb | hb
      · exact hw.above (i := 5) (j := 1) (by decide) rfl rfl b hb
      · exact hw.above (i := 5) (j := 2) (by decide) rfl rfl b hb
    · intro w hw; exact ⟨Eq.mp (congrArg (fun y => SlR tEntry _ w a4 c5 y) hr1) (SlR.mono (fun b hb => by simp [hb]) (SlO.toR (hw.at (i := 1) rfl).here)), Eq.mp (congrArg (fun y => SlR tInt _ w a7 c8 y) hr2) (SlR.mono (fun b hb => by simp [hb]) (SlO.toR (hw.at (i := 2) rfl).here))⟩
end Go.Proofs.Ytkndekkacimekaa
