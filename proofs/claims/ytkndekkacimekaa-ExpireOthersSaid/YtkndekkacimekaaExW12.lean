/- The walks, printed by a program from the translation and a specification. -/
import Derived.Test.YtkndekkacimekaaExF
import Derived.Test.YtkndekkacimekaaExLaw2
namespace Go.Proofs.Ytkndekkacimekaa
open Go.Sx Go.RowKit
set_option maxHeartbeats 8000000 in
set_option maxRecDepth 100000 in
theorem sameLasting_ok (a : DStore) (aa_0 : Option Addr) (ca_0 : Nat) (b : DStore) (ab_0 : Option Addr) (cb_0 : Nat) : Fn0 Try.prog 26 [.agg #[.int .i64 a.life, .slice aa_0 a.entries.length ca_0], .agg #[.int .i64 b.life, .slice ab_0 b.entries.length cb_0]] (fun w => Rd tEntry w aa_0 ca_0 a.entries ∧ Rd tEntry w ab_0 cb_0 b.entries) (.bool (decide (a = b))) := by
  refine fn0 (nt := 38) (F0 := [(0, .agg #[.int .i64 a.life, .slice aa_0 a.entries.length ca_0]), (1, .agg #[.int .i64 b.life, .slice ab_0 b.entries.length cb_0])]) Try.func26 rfl Try.ntmps26 rfl rfl (fun w0 hpre => ?_)
  obtain ⟨ha_0, hb_0⟩ := hpre
  have hlha_0 := ha_0.2.1
  have hlhb_0 := hb_0.2.1
  refine c_seq ?_
  refine c_region ?_
  refine o_box (v := .agg #[.int .i64 a.life, .slice aa_0 a.entries.length ca_0]) rfl rfl (fun B1 => ?_)
  refine o_box (v := .agg #[.int .i64 b.life, .slice ab_0 b.entries.length cb_0]) rfl rfl (fun B2 => ?_)
  refine o_pure (p_assign (v := .bool false) rfl) rfl rfl rfl ?_
  refine o_nil ?_
  refine q_then ?_
  refine c_seq ?_
  refine c_seq ?_
  refine c_region ?_
  refine o_pure (p_fieldAddr (B := B1) (j := 0) (j' := 0) rfl fo24_0 rfl) rfl rfl rfl ?_
  refine o_pure (p_load (i := 1) (v := .int .i64 a.life) rfl rfl sh3 rfl) rfl rfl rfl ?_
  refine o_pure (p_fieldAddr (B := B2) (j := 0) (j' := 0) rfl fo24_0 rfl) rfl rfl rfl ?_
  refine o_pure (p_load (i := 0) (v := .int .i64 b.life) rfl rfl sh3 rfl) rfl rfl rfl ?_
  refine o_pure (p_ne (p := a.life) (q := b.life) rfl rfl) rfl rfl rfl ?_
  refine o_pure (p_move (v := .bool (a.life != b.life)) rfl) rfl rfl rfl ?_
  refine o_or (p := 19) 8 ((a.entries.length : Int) != (b.entries.length : Int)) ?_ ?_ ?_
  · intro hb3 hk
    simp only [bne_eq_false_iff_eq] at hb3
    refine o_unguard 11 rfl rfl ?_
    refine o_pure (p_fieldAddr (B := B1) (j := 0) (j' := 1) rfl fo24_1 rfl) rfl rfl rfl ?_
    refine o_unguard 11 rfl rfl ?_
    refine o_pure (p_load (i := 1) (v := .slice aa_0 a.entries.length ca_0) rfl rfl sh22 rfl) rfl rfl rfl ?_
    refine o_unguard 11 rfl rfl ?_
    refine o_pure (p_len_slice (len := a.entries.length) rfl rfl Try.underlying22) rfl rfl rfl ?_
    refine o_unguard 11 rfl rfl ?_
    refine o_pure (p_fieldAddr (B := B2) (j := 0) (j' := 1) rfl fo24_1 rfl) rfl rfl rfl ?_
    refine o_unguard 11 rfl rfl ?_
    refine o_pure (p_load (i := 0) (v := .slice ab_0 b.entries.length cb_0) rfl rfl sh22 rfl) rfl rfl rfl ?_
    refine o_unguard 11 rfl rfl ?_
    refine o_pure (p_len_slice (len := b.entries.length) rfl rfl Try.underlying22) rfl rfl rfl ?_
    refine o_unguard 11 rfl rfl ?_
    refine o_pure (p_ne (p := (a.entries.length : Int)) (q := (b.entries.length : Int)) rfl rfl) rfl rfl rfl ?_
    refine o_pure (p_pick_false (v := .bool ((a.entries.length : Int) != (b.entries.length : Int))) rfl rfl) rfl rfl rfl ?_
    exact o_sub (Sub.cons rfl (Sub.skip rfl (Sub.skip rfl (Sub.skip rfl (Sub.skip rfl (Sub.skip rfl (Sub.skip rfl (Sub.skip rfl (Sub.skip rfl (Sub.skip rfl (Sub.refl _))))))))))) hk
  · intro hb3 hk
    refine o_guard_no rfl 11 rfl rfl rfl rfl rfl ?_
    refine o_guard_no rfl 11 rfl rfl rfl rfl rfl ?_
    refine o_guard_no rfl 11 rfl rfl rfl rfl rfl ?_
    refine o_guard_no rfl 11 rfl rfl rfl rfl rfl ?_
    refine o_guard_no rfl 11 rfl rfl rfl rfl rfl ?_
    refine o_guard_no rfl 11 rfl rfl rfl rfl rfl ?_
    refine o_guard_no rfl 11 rfl rfl rfl rfl rfl ?_
    refine o_pure (p_pick_true (u := .bool true) rfl rfl) rfl rfl rfl ?_
    exact o_sub (Sub.cons rfl (Sub.skip rfl (Sub.skip rfl (Sub.skip rfl (Sub.skip rfl (Sub.skip rfl (Sub.skip rfl (Sub.skip rfl (Sub.skip rfl (Sub.skip rfl (Sub.refl _))))))))))) hk
  refine o_nil ?_
  refine q_then ?_
  refine c_cond (b := ((a.life != b.life) || ((a.entries.length : Int) != (b.entries.length : Int)))) rfl (fun hc4 => ?_) (fun hc4 => ?_)
  · simp only [Bool.or_eq_true, bne_iff_ne, ne_eq] at hc4
    refine c_seq ?_
    refine c_region ?_
    refine o_pure (p_assign (v := .bool false) rfl) rfl rfl rfl ?_
    refine o_nil ?_
    refine q_then ?_
    refine c_ret ?_
    refine q_then_ret ?_
    have hr0 : (false : Bool) = (decide (a = b)) := by
      first | exact Exp.same_no (by assumption) | exact Exp.same_no2 (by assumption) | exact Exp.same_yes (by omega) (by omega) (fun j h1 h2 => hI2 j h1 h2 (by omega))
    refine q_end0 (v := .bool false) (rt1 rfl (r_tmp rfl)) (i := 2) rfl ?_
    exact (by have hcc := congrArg (fun (y0 : Bool) => (.bool y0 : Value)) hr0; exact hcc)
  · simp only [Bool.or_eq_false_iff, bne_eq_false_iff_eq] at hc4
    refine c_skip ?_
    refine q_then ?_
    refine c_seq ?_
    refine c_seq ?_
    refine c_region ?_
    refine o_pure (p_assign (v := .int .i64 0) rfl) rfl rfl rfl ?_
    refine o_nil ?_
    refine q_then ?_
    refine c_block ?_
    refine c_loop (St := Nat)
      (fun i => [(2, .pointer (some ⟨B1, 0, none⟩)), (3, .pointer (some ⟨B2, 0, none⟩)), (5, .int .i64 (i : Int))])
      (fun i => [box B2 [.int .i64 b.life, .slice ab_0 b.entries.length cb_0] 24, box B1 [.int .i64 a.life, .slice aa_0 a.entries.length ca_0] 24, base w0])
      (fun i => i ≤ a.entries.length ∧ ∀ j (h1 : j < a.entries.length) (h2 : j < b.entries.length), j < i → a.entries[j] = b.entries[j])
      (fun i => a.entries.length - i)
      0 ?_ (Sub.cons rfl (Sub.cons rfl (Sub.cons rfl (Sub.nil _)))) (fun _ hw => hw) ?_
    · exact ⟨Nat.zero_le _, fun j _ _ h => absurd h (by omega)⟩
    rintro i hI K hK5
    obtain ⟨hI1, hI2⟩ := hI
    show SC _ _ Try.prog 38 w0 _ _ [(2, .pointer (some ⟨B1, 0, none⟩)), (3, .pointer (some ⟨B2, 0, none⟩)), (5, .int .i64 (i : Int))] [box B2 [.int .i64 b.life, .slice ab_0 b.entries.length cb_0] 24, box B1 [.int .i64 a.life, .slice aa_0 a.entries.length ca_0] 24, base w0]
    refine c_seq ?_
    refine c_seq ?_
    refine c_region ?_
    refine o_pure (p_move (v := .int .i64 (i : Int)) rfl) rfl rfl rfl ?_
    refine o_pure (p_fieldAddr (B := B1) (j := 0) (j' := 1) rfl fo24_1 rfl) rfl rfl rfl ?_
    refine o_pure (p_load (i := 1) (v := .slice aa_0 a.entries.length ca_0) rfl rfl sh22 rfl) rfl rfl rfl ?_
    refine o_pure (p_len_slice (len := a.entries.length) rfl rfl Try.underlying22) rfl rfl rfl ?_
    refine o_pure (p_lt (p := (i : Int)) (q := (a.entries.length : Int)) rfl rfl) rfl rfl rfl ?_
    refine o_nil ?_
    refine q_then ?_
    refine c_cond (b := decide ((i : Int) < (a.entries.length : Int))) rfl (fun hc6 => ?_) (fun hc6 => ?_)
    · simp only [decide_eq_true_eq] at hc6
      refine c_skip ?_
      refine q_then ?_
      refine c_seq ?_
      refine c_block ?_
      refine c_seq ?_
      refine c_draw hmix (by kernel_rfl) ?_
      refine w_pure (p_fieldAddr (B := B1) (j := 0) (j' := 1) rfl fo24_1 rfl) rfl rfl rfl ?_
      refine w_pure (p_load (i := 1) (v := .slice aa_0 a.entries.length ca_0) rfl rfl sh22 rfl) rfl rfl rfl ?_
      refine w_pure (p_move (v := .int .i64 (i : Int)) rfl) rfl rfl rfl ?_
      refine w_pure (p_indexAddr (L := a.entries) (T := tEntry) (i := (i : Int)) rfl rfl (rd_base (i := 2) rfl ha_0) Try.underlying22 sz42 (by omega) (by omega)) rfl rfl rfl ?_
      refine w_pure (p_loadEn (i := i) (T := tEntry) (L := a.entries) (vs := [.int .i64 ((a.entries[i]).key), .int .i64 ((a.entries[i]).value), .int .i64 ((a.entries[i]).till)]) rfl (rd_base (i := 2) rfl ha_0) (by first | assumption | omega) sh42 rfl) rfl rfl rfl ?_
      refine w_pure (p_fieldAddr (B := B2) (j := 0) (j' := 1) rfl fo24_1 rfl) rfl rfl rfl ?_
      refine w_pure (p_load (i := 0) (v := .slice ab_0 b.entries.length cb_0) rfl rfl sh22 rfl) rfl rfl rfl ?_
      refine w_pure (p_move (v := .int .i64 (i : Int)) rfl) rfl rfl rfl ?_
      refine w_pure (p_indexAddr (L := b.entries) (T := tEntry) (i := (i : Int)) rfl rfl (rd_base (i := 2) rfl hb_0) Try.underlying22 sz42 (by omega) (by omega)) rfl rfl rfl ?_
      refine w_pure (p_loadEn (i := i) (T := tEntry) (L := b.entries) (vs := [.int .i64 ((b.entries[i]).key), .int .i64 ((b.entries[i]).value), .int .i64 ((b.entries[i]).till)]) rfl (rd_base (i := 2) rfl hb_0) (by first | assumption | omega) sh42 rfl) rfl rfl rfl ?_
      refine w_pure (p_neStruct (xs := [.int .i64 ((a.entries[i]).key), .int .i64 ((a.entries[i]).value), .int .i64 ((a.entries[i]).till)]) (ys := [.int .i64 ((b.entries[i]).key), .int .i64 ((b.entries[i]).value), .int .i64 ((b.entries[i]).till)]) (r := (((a.entries[i]).key == (b.entries[i]).key) && (((a.entries[i]).value == (b.entries[i]).value) && ((a.entries[i]).till == (b.entries[i]).till)))) rfl rfl eqS42) rfl rfl rfl ?_
      refine w_nil ?_
      refine q_then ?_
      refine c_cond (b := (!(((a.entries[i]).key == (b.entries[i]).key) && (((a.entries[i]).value == (b.entries[i]).value) && ((a.entries[i]).till == (b.entries[i]).till))))) rfl (fun hc7 => ?_) (fun hc7 => ?_)
      · simp only [Bool.not_eq_true', Bool.and_eq_false_iff, beq_eq_false_iff_ne, ne_eq] at hc7
        refine c_seq ?_
        refine c_region ?_
        refine o_pure (p_assign (v := .bool false) rfl) rfl rfl rfl ?_
        refine o_nil ?_
        refine q_then ?_
        refine c_ret ?_
        refine q_block_ret (q_then_ret (q_then_ret (q_block_ret (q_then_ret ?_))))
        have hr0 : (false : Bool) = (decide (a = b)) := by
          first | exact Exp.same_no (by assumption) | exact Exp.same_no2 (by assumption) | exact Exp.same_yes (by omega) (by omega) (fun j h1 h2 => hI2 j h1 h2 (by omega))
        refine q_end0 (v := .bool false) (rt1 rfl (r_tmp rfl)) (i := 2) rfl ?_
        exact (by have hcc := congrArg (fun (y0 : Bool) => (.bool y0 : Value)) hr0; exact hcc)
      · simp only [Bool.not_eq_false', Bool.and_eq_true, beq_iff_eq] at hc7
        refine c_skip ?_
        refine q_block_normal (q_then ?_)
        refine c_region ?_
        refine o_pure (p_move (v := .int .i64 (i : Int)) rfl) rfl rfl rfl ?_
        refine o_pure (p_addb (p := (i : Int)) (q := 1) rfl rfl (by omega)) rfl rfl rfl ?_
        refine o_pure (p_assign (v := .int .i64 ((i : Int) + 1)) rfl) rfl rfl rfl ?_
        refine o_nil ?_
        refine q_round hK5 (i + 1) ?_ ?_ ?_ ?_
        · clear hK5
          refine ⟨by omega, fun j h1 h2 h3 => ?_⟩
          by_cases e : j = i
          · subst e; exact Exp.entry_eq (by simp_all)
          · exact hI2 j h1 h2 (by omega)
        · (try dsimp only); omega
        · exact Sub.cons rfl (Sub.cons rfl (Sub.cons rfl (Sub.nil _)))
        · exact fun _ hw => HeapIs.pick hw [0, 1, 2] (by decide) rfl
    · simp only [decide_eq_false_iff_not, Int.not_lt] at hc6
      refine c_exit ?_
      refine q_then_exit (q_then_exit (q_block_exit (q_then ?_)))
      refine c_seq ?_
      refine c_region ?_
      refine o_pure (p_assign (v := .bool true) rfl) rfl rfl rfl ?_
      refine o_nil ?_
      refine q_then ?_
      refine c_ret ?_
      have hr0 : (true : Bool) = (decide (a = b)) := by
        first | exact Exp.same_no (by assumption) | exact Exp.same_no2 (by assumption) | exact Exp.same_yes (by omega) (by omega) (fun j h1 h2 => hI2 j h1 h2 (by omega))
      refine q_end0 (v := .bool true) (rt1 rfl (r_tmp rfl)) (i := 2) rfl ?_
      exact (by have hcc := congrArg (fun (y0 : Bool) => (.bool y0 : Value)) hr0; exact hcc)
end Go.Proofs.Ytkndekkacimekaa
