/- The walks, printed by a program from the translation and a specification. -/
import Derived.Test.YthbfdhphnofacabCkF
import Derived.Test.YthbfdhphnofacabCkLaw
import Derived.Test.YthbfdhphnofacabCkW6
import Derived.Test.YthbfdhphnofacabCkLaw2
namespace Go.Proofs.Ythbfdhphnofacab
open Go.Sx Go.RowKit
set_option maxHeartbeats 8000000 in
set_option maxRecDepth 100000 in
theorem clockSpares_ok (c : DClock) (ac_0 : Option Addr) (cc_0 : Nat) (key : Int) : Fn0 Try.prog 11 [.agg #[.int .i64 c.room, .int .i64 c.hand, .slice ac_0 c.frames.length cc_0], .int .i64 key] (fun w => Rd tFrame w ac_0 cc_0 c.frames) (.bool true) := by
  refine fn0 (nt := 115) (F0 := [(0, .agg #[.int .i64 c.room, .int .i64 c.hand, .slice ac_0 c.frames.length cc_0]), (1, .int .i64 key)]) Try.func11 rfl Try.ntmps11 rfl rfl (fun w0 hpre => ?_)
  have hc_0 := hpre
  have hlhc_0 := hc_0.2.1
  refine c_seq ?_
  refine c_region ?_
  refine o_box (v := .agg #[.int .i64 c.room, .int .i64 c.hand, .slice ac_0 c.frames.length cc_0]) rfl rfl (fun B1 => ?_)
  refine o_pure (p_assign (v := .bool false) rfl) rfl rfl rfl ?_
  refine o_nil ?_
  refine q_then ?_
  refine c_seq ?_
  refine c_region ?_
  refine o_pure (p_load_agg (i := 0) (vs := [.int .i64 c.room, .int .i64 c.hand, .slice ac_0 c.frames.length cc_0]) rfl rfl sh59 rfl rfl) rfl rfl rfl ?_
  refine o_pure (p_move (v := .int .i64 key) rfl) rfl rfl rfl ?_
  refine o_callM rfl (access_ok c ac_0 cc_0 key) hf37 (fun w hw => (rd_base (i := 1) rfl hc_0) w hw) rfl (fun _ _ _ _ ha hA => SlO.agree ha hA) ?_
  rintro ⟨a4, c5⟩ S2
  refine o_pure (p_move (v := .tuple #[.agg #[.int .i64 (((Clock.access c key).1).room), .int .i64 (((Clock.access c key).1).hand), .slice a4 (((Clock.access c key).1).frames).length c5], .bool ((Clock.access c key).2.1), .int .i64 ((Clock.access c key).2.2), .int .i64 (Clock.accessErr c key)]) rfl) rfl rfl rfl ?_
  refine o_pure (p_extract (vs := [.agg #[.int .i64 (((Clock.access c key).1).room), .int .i64 (((Clock.access c key).1).hand), .slice a4 (((Clock.access c key).1).frames).length c5], .bool ((Clock.access c key).2.1), .int .i64 ((Clock.access c key).2.2), .int .i64 (Clock.accessErr c key)]) (v := .agg #[.int .i64 (((Clock.access c key).1).room), .int .i64 (((Clock.access c key).1).hand), .slice a4 (((Clock.access c key).1).frames).length c5]) rfl rfl) rfl rfl rfl ?_
  refine o_pure (p_extract (vs := [.agg #[.int .i64 (((Clock.access c key).1).room), .int .i64 (((Clock.access c key).1).hand), .slice a4 (((Clock.access c key).1).frames).length c5], .bool ((Clock.access c key).2.1), .int .i64 ((Clock.access c key).2.2), .int .i64 (Clock.accessErr c key)]) (v := .bool ((Clock.access c key).2.1)) rfl rfl) rfl rfl rfl ?_
  refine o_pure (p_extract (vs := [.agg #[.int .i64 (((Clock.access c key).1).room), .int .i64 (((Clock.access c key).1).hand), .slice a4 (((Clock.access c key).1).frames).length c5], .bool ((Clock.access c key).2.1), .int .i64 ((Clock.access c key).2.2), .int .i64 (Clock.accessErr c key)]) (v := .int .i64 ((Clock.access c key).2.2)) rfl rfl) rfl rfl rfl ?_
  refine o_pure (p_extract (vs := [.agg #[.int .i64 (((Clock.access c key).1).room), .int .i64 (((Clock.access c key).1).hand), .slice a4 (((Clock.access c key).1).frames).length c5], .bool ((Clock.access c key).2.1), .int .i64 ((Clock.access c key).2.2), .int .i64 (Clock.accessErr c key)]) (v := .int .i64 (Clock.accessErr c key)) rfl rfl) rfl rfl rfl ?_
  refine o_alloc ze59 rfl (fun B6 => ?_)
  refine o_storeN (i := 0) (vs := [.int .i64 (((Clock.access c key).1).room), .int .i64 (((Clock.access c key).1).hand), .slice a4 (((Clock.access c key).1).frames).length c5]) (cs' := [.int .i64 (((Clock.access c key).1).room), .int .i64 (((Clock.access c key).1).hand), .slice a4 (((Clock.access c key).1).frames).length c5]) rfl rfl rfl sz59 rfl rfl rfl rfl ?_
  refine o_pure (p_assign (v := .bool ((Clock.access c key).2.1)) rfl) rfl rfl rfl ?_
  refine o_pure (p_assign (v := .int .i64 ((Clock.access c key).2.2)) rfl) rfl rfl rfl ?_
  refine o_pure (p_assign (v := .int .i64 (Clock.accessErr c key)) rfl) rfl rfl rfl ?_
  refine o_nil ?_
  refine q_then ?_
  refine c_seq ?_
  refine c_seq ?_
  refine c_region ?_
  refine o_call0 (v := .bool true) rfl (clockBegun_ok ) hf44 (fun _ _ => trivial) rfl ?_
  refine o_pure (p_not (b := true) rfl) rfl rfl rfl ?_
  refine o_nil ?_
  refine q_then ?_
  refine c_false rfl ?_
  refine c_skip ?_
  refine q_then ?_
  refine c_seq ?_
  refine c_seq ?_
  refine c_region ?_
  refine o_pure (p_move (v := .int .i64 (Clock.accessErr c key)) rfl) rfl rfl rfl ?_
  refine o_pure (p_ne (p := (Clock.accessErr c key)) (q := 0) rfl rfl) rfl rfl rfl ?_
  refine o_pure (p_move (v := .bool ((Clock.accessErr c key) != 0)) rfl) rfl rfl rfl ?_
  refine o_or (p := 28) 2 ((Clock.access c key).2.1) ?_ ?_ ?_
  · intro hb7 hk
    simp only [bne_eq_false_iff_eq] at hb7
    refine o_unguard 26 rfl rfl ?_
    refine o_pure (p_move (v := .bool ((Clock.access c key).2.1)) rfl) rfl rfl rfl ?_
    refine o_pure (p_pick_false (v := .bool ((Clock.access c key).2.1)) rfl rfl) rfl rfl rfl ?_
    exact o_sub (Sub.cons rfl (Sub.skip rfl (Sub.skip rfl (Sub.skip rfl (Sub.refl _))))) hk
  · intro hb7 hk
    refine o_guard_no rfl 26 rfl rfl rfl rfl rfl ?_
    refine o_pure (p_pick_true (u := .bool true) rfl rfl) rfl rfl rfl ?_
    exact o_sub (Sub.cons rfl (Sub.skip rfl (Sub.skip rfl (Sub.skip rfl (Sub.refl _))))) hk
  refine o_pure (p_move (v := .bool (((Clock.accessErr c key) != 0) || ((Clock.access c key).2.1))) rfl) rfl rfl rfl ?_
  refine o_or (p := 32) 3 (decide (((Clock.access c key).2.2) < 0)) ?_ ?_ ?_
  · intro hb8 hk
    simp only [Bool.or_eq_false_iff, bne_eq_false_iff_eq] at hb8
    refine o_unguard 29 rfl rfl ?_
    refine o_pure (p_move (v := .int .i64 ((Clock.access c key).2.2)) rfl) rfl rfl rfl ?_
    refine o_unguard 29 rfl rfl ?_
    refine o_pure (p_lt (p := ((Clock.access c key).2.2)) (q := 0) rfl rfl) rfl rfl rfl ?_
    refine o_pure (p_pick_false (v := .bool (decide (((Clock.access c key).2.2) < 0))) rfl rfl) rfl rfl rfl ?_
    exact o_sub (Sub.cons rfl (Sub.skip rfl (Sub.skip rfl (Sub.skip rfl (Sub.skip rfl (Sub.refl _)))))) hk
  · intro hb8 hk
    refine o_guard_no rfl 29 rfl rfl rfl rfl rfl ?_
    refine o_guard_no rfl 29 rfl rfl rfl rfl rfl ?_
    refine o_pure (p_pick_true (u := .bool true) rfl rfl) rfl rfl rfl ?_
    exact o_sub (Sub.cons rfl (Sub.skip rfl (Sub.skip rfl (Sub.skip rfl (Sub.skip rfl (Sub.refl _)))))) hk
  refine o_nil ?_
  refine q_then ?_
  refine c_cond (b := ((((Clock.accessErr c key) != 0) || ((Clock.access c key).2.1)) || decide (((Clock.access c key).2.2) < 0))) rfl (fun hc9 => ?_) (fun hc9 => ?_)
  · simp only [Bool.or_eq_true, bne_iff_ne, ne_eq, decide_eq_true_eq] at hc9
    refine c_seq ?_
    refine c_region ?_
    refine o_pure (p_move (v := .int .i64 (Clock.accessErr c key)) rfl) rfl rfl rfl ?_
    refine o_pure (p_ne (p := (Clock.accessErr c key)) (q := 0) rfl rfl) rfl rfl rfl ?_
    refine o_pure (p_move (v := .bool ((Clock.accessErr c key) != 0)) rfl) rfl rfl rfl ?_
    refine o_or (p := 39) 4 ((Clock.check ((Clock.access c key).1)) == 0) ?_ ?_ ?_
    · intro hb10 hk
      simp only [bne_eq_false_iff_eq] at hb10
      refine o_unguard 35 rfl rfl ?_
      refine o_pure (p_load_agg (i := 0) (vs := [.int .i64 (((Clock.access c key).1).room), .int .i64 (((Clock.access c key).1).hand), .slice a4 (((Clock.access c key).1).frames).length c5]) rfl rfl sh59 rfl rfl) rfl rfl rfl ?_
      refine o_unguard 35 rfl rfl ?_
      refine o_call0 (v := .int .i64 (Clock.check ((Clock.access c key).1))) rfl (ccheck_ok ((Clock.access c key).1) a4 c5) hf45 (fun w hw => (rd_own (i := 1) rfl) w hw) rfl ?_
      refine o_unguard 35 rfl rfl ?_
      refine o_pure (p_eq (p := (Clock.check ((Clock.access c key).1))) (q := 0) rfl rfl) rfl rfl rfl ?_
      refine o_pure (p_pick_false (v := .bool ((Clock.check ((Clock.access c key).1)) == 0)) rfl rfl) rfl rfl rfl ?_
      exact o_sub (Sub.cons rfl (Sub.skip rfl (Sub.skip rfl (Sub.skip rfl (Sub.skip rfl (Sub.skip rfl (Sub.refl _))))))) hk
    · intro hb10 hk
      refine o_guard_no rfl 35 rfl rfl rfl rfl rfl ?_
      refine o_guard_no rfl 35 rfl rfl rfl rfl rfl ?_
      refine o_guard_no rfl 35 rfl rfl rfl rfl rfl ?_
      refine o_pure (p_pick_true (u := .bool true) rfl rfl) rfl rfl rfl ?_
      exact o_sub (Sub.cons rfl (Sub.skip rfl (Sub.skip rfl (Sub.skip rfl (Sub.skip rfl (Sub.skip rfl (Sub.refl _))))))) hk
    refine o_pure (p_assign (v := .bool (((Clock.accessErr c key) != 0) || ((Clock.check ((Clock.access c key).1)) == 0))) rfl) rfl rfl rfl ?_
    refine o_nil ?_
    refine q_then ?_
    refine c_ret ?_
    refine q_then_ret ?_
    have hr0 : ((((Clock.accessErr c key) != 0) || ((Clock.check ((Clock.access c key).1)) == 0)) : Bool) = true := by
      first | exact Clock.spares_bool | exact Clock.spares_end hsq.1.1 hsq.1.2 hsq.2 hI0 (by omega) hI (by omega)
    refine q_end0 (v := .bool (((Clock.accessErr c key) != 0) || ((Clock.check ((Clock.access c key).1)) == 0))) (rt1 rfl (r_tmp rfl)) (i := 3) rfl ?_
    exact (by have hcc := congrArg (fun (y0 : Bool) => (.bool y0 : Value)) hr0; exact hcc)
  · simp only [Bool.or_eq_false_iff, bne_eq_false_iff_eq, decide_eq_false_iff_not, Int.not_lt] at hc9
    have hsp := Clock.spares (c := c) (key := key) hc9.1.1 hc9.1.2 hc9.2
    have hsq := hc9
    have hro := (Clock.ok_of (Clock.acc_err hc9.1.1).1).room
    have hln := hsp.2.2.2.1
    refine c_skip ?_
    refine q_then ?_
    refine c_seq ?_
    refine c_region ?_
    refine o_pure (p_assign (v := .bool true) rfl) rfl rfl rfl ?_
    refine o_pure (p_assign (v := .bool false) rfl) rfl rfl rfl ?_
    refine o_nil ?_
    refine q_then ?_
    refine c_seq ?_
    refine c_seq ?_
    refine c_region ?_
    refine o_pure (p_assign (v := .int .i64 0) rfl) rfl rfl rfl ?_
    refine o_nil ?_
    refine q_then ?_
    refine c_block ?_
    refine c_loop (St := Bool × Bool × Nat)
      (fun ⟨all_, used_, i⟩ => [(1, .int .i64 key), (2, .pointer (some ⟨B1, 0, none⟩)), (5, .pointer (some ⟨B6, 0, none⟩)), (7, .int .i64 ((Clock.access c key).2.2)), (9, .bool all_), (10, .bool used_), (11, .int .i64 (i : Int))])
      (fun ⟨all_, used_, i⟩ => [box B6 [.int .i64 (((Clock.access c key).1).room), .int .i64 (((Clock.access c key).1).hand), .slice a4 (((Clock.access c key).1).frames).length c5] 59, own tFrame S2 a4 c5 (((Clock.access c key).1).frames), box B1 [.int .i64 c.room, .int .i64 c.hand, .slice ac_0 c.frames.length cc_0] 59, base w0])
      (fun ⟨all_, used_, i⟩ => Clock.SpInv c (Clock.access c key).2.2 all_ used_ i)
      (fun ⟨all_, used_, i⟩ => c.frames.length - i)
      (true, false, 0) ?_ (Sub.cons rfl (Sub.cons rfl (Sub.cons rfl (Sub.cons rfl (Sub.cons rfl (Sub.cons rfl (Sub.cons rfl (Sub.nil _)))))))) (fun _ hw => hw) ?_
    · exact Clock.SpInv.start _ _
    rintro ⟨all_, used_, i⟩ hI K hK11
    show SC Try.prog 115 w0 _ _ [(1, .int .i64 key), (2, .pointer (some ⟨B1, 0, none⟩)), (5, .pointer (some ⟨B6, 0, none⟩)), (7, .int .i64 ((Clock.access c key).2.2)), (9, .bool all_), (10, .bool used_), (11, .int .i64 (i : Int))] [box B6 [.int .i64 (((Clock.access c key).1).room), .int .i64 (((Clock.access c key).1).hand), .slice a4 (((Clock.access c key).1).frames).length c5] 59, own tFrame S2 a4 c5 (((Clock.access c key).1).frames), box B1 [.int .i64 c.room, .int .i64 c.hand, .slice ac_0 c.frames.length cc_0] 59, base w0]
    refine c_seq ?_
    refine c_seq ?_
    refine c_region ?_
    refine o_pure (p_move (v := .int .i64 (i : Int)) rfl) rfl rfl rfl ?_
    refine o_pure (p_fieldAddr (B := B1) (j := 0) (j' := 2) rfl fo59_2 rfl) rfl rfl rfl ?_
    refine o_pure (p_load (i := 2) (v := .slice ac_0 c.frames.length cc_0) rfl rfl sh57 rfl) rfl rfl rfl ?_
    refine o_pure (p_len_slice (len := c.frames.length) rfl rfl Try.underlying57) rfl rfl rfl ?_
    refine o_pure (p_lt (p := (i : Int)) (q := (c.frames.length : Int)) rfl rfl) rfl rfl rfl ?_
    refine o_nil ?_
    refine q_then ?_
    refine c_cond (b := decide ((i : Int) < (c.frames.length : Int))) rfl (fun hc12 => ?_) (fun hc12 => ?_)
    · simp only [decide_eq_true_eq] at hc12
      refine c_skip ?_
      refine q_then ?_
      refine c_seq ?_
      refine c_block ?_
      refine c_seq ?_
      refine c_region ?_
      refine o_pure (p_move (v := .bool all_) rfl) rfl rfl rfl ?_
      refine o_pure (p_move (v := .bool all_) rfl) rfl rfl rfl ?_
      refine o_and (p := 55) 7 ((c.frames[i]).used) ?_ ?_ ?_
      · intro hb13 hk
        skip
        refine o_unguard 48 rfl rfl ?_
        refine o_pure (p_fieldAddr (B := B1) (j := 0) (j' := 2) rfl fo59_2 rfl) rfl rfl rfl ?_
        refine o_unguard 48 rfl rfl ?_
        refine o_pure (p_load (i := 2) (v := .slice ac_0 c.frames.length cc_0) rfl rfl sh57 rfl) rfl rfl rfl ?_
        refine o_unguard 48 rfl rfl ?_
        refine o_pure (p_move (v := .int .i64 (i : Int)) rfl) rfl rfl rfl ?_
        refine o_unguard 48 rfl rfl ?_
        refine o_pure (p_indexAddr (L := c.frames) (T := tFrame) (i := (i : Int)) rfl rfl (rd_base (i := 3) rfl hc_0) Try.underlying57 sz73 (by omega) (by omega)) rfl rfl rfl ?_
        refine o_unguard 48 rfl rfl ?_
        refine o_pure (p_fieldAddrE rfl fo73_1) rfl rfl rfl ?_
        refine o_unguard 48 rfl rfl ?_
        refine o_pure (p_loadF (i := i) (j := 1) (T := tFrame) (L := c.frames) (v := .bool ((c.frames[i]).used)) rfl (rd_base (i := 3) rfl hc_0) (by first | assumption | omega) sh4 rfl) rfl rfl rfl ?_
        refine o_pure (p_pick_true (u := .bool ((c.frames[i]).used)) rfl rfl) rfl rfl rfl ?_
        exact o_sub (Sub.cons rfl (Sub.skip rfl (Sub.skip rfl (Sub.skip rfl (Sub.skip rfl (Sub.skip rfl (Sub.skip rfl (Sub.skip rfl (Sub.skip rfl (Sub.refl _)))))))))) hk
      · intro hb13 hk
        refine o_guard_no rfl 48 rfl rfl rfl rfl rfl ?_
        refine o_guard_no rfl 48 rfl rfl rfl rfl rfl ?_
        refine o_guard_no rfl 48 rfl rfl rfl rfl rfl ?_
        refine o_guard_no rfl 48 rfl rfl rfl rfl rfl ?_
        refine o_guard_no rfl 48 rfl rfl rfl rfl rfl ?_
        refine o_guard_no rfl 48 rfl rfl rfl rfl rfl ?_
        refine o_pure (p_pick_false (v := .bool false) rfl rfl) rfl rfl rfl ?_
        exact o_sub (Sub.cons rfl (Sub.skip rfl (Sub.skip rfl (Sub.skip rfl (Sub.skip rfl (Sub.skip rfl (Sub.skip rfl (Sub.skip rfl (Sub.skip rfl (Sub.refl _)))))))))) hk
      refine o_pure (p_assign (v := .bool (all_ && (c.frames[i]).used)) rfl) rfl rfl rfl ?_
      refine o_nil ?_
      refine q_then ?_
      refine c_seq ?_
      refine c_region ?_
      refine o_pure (p_fieldAddr (B := B1) (j := 0) (j' := 2) rfl fo59_2 rfl) rfl rfl rfl ?_
      refine o_pure (p_load (i := 2) (v := .slice ac_0 c.frames.length cc_0) rfl rfl sh57 rfl) rfl rfl rfl ?_
      refine o_pure (p_move (v := .int .i64 (i : Int)) rfl) rfl rfl rfl ?_
      refine o_pure (p_indexAddr (L := c.frames) (T := tFrame) (i := (i : Int)) rfl rfl (rd_base (i := 3) rfl hc_0) Try.underlying57 sz73 (by omega) (by omega)) rfl rfl rfl ?_
      refine o_pure (p_fieldAddrE rfl fo73_0) rfl rfl rfl ?_
      refine o_pure (p_loadF (i := i) (j := 0) (T := tFrame) (L := c.frames) (v := .int .i64 ((c.frames[i]).key)) rfl (rd_base (i := 3) rfl hc_0) (by first | assumption | omega) sh3 rfl) rfl rfl rfl ?_
      refine o_pure (p_move (v := .int .i64 ((Clock.access c key).2.2)) rfl) rfl rfl rfl ?_
      refine o_pure (p_eq (p := (c.frames[i]).key) (q := ((Clock.access c key).2.2)) rfl rfl) rfl rfl rfl ?_
      refine o_nil ?_
      refine q_then ?_
      refine c_cond (b := ((c.frames[i]).key == ((Clock.access c key).2.2))) rfl (fun hc14 => ?_) (fun hc14 => ?_)
      · simp only [beq_iff_eq] at hc14
        refine c_region ?_
        refine o_pure (p_fieldAddr (B := B1) (j := 0) (j' := 2) rfl fo59_2 rfl) rfl rfl rfl ?_
        refine o_pure (p_load (i := 2) (v := .slice ac_0 c.frames.length cc_0) rfl rfl sh57 rfl) rfl rfl rfl ?_
        refine o_pure (p_move (v := .int .i64 (i : Int)) rfl) rfl rfl rfl ?_
        refine o_pure (p_indexAddr (L := c.frames) (T := tFrame) (i := (i : Int)) rfl rfl (rd_base (i := 3) rfl hc_0) Try.underlying57 sz73 (by omega) (by omega)) rfl rfl rfl ?_
        refine o_pure (p_fieldAddrE rfl fo73_1) rfl rfl rfl ?_
        refine o_pure (p_loadF (i := i) (j := 1) (T := tFrame) (L := c.frames) (v := .bool ((c.frames[i]).used)) rfl (rd_base (i := 3) rfl hc_0) (by first | assumption | omega) sh4 rfl) rfl rfl rfl ?_
        refine o_pure (p_assign (v := .bool ((c.frames[i]).used)) rfl) rfl rfl rfl ?_
        refine o_nil ?_
        refine q_block_normal (q_then ?_)
        refine c_region ?_
        refine o_pure (p_move (v := .int .i64 (i : Int)) rfl) rfl rfl rfl ?_
        refine o_pure (p_addb (p := (i : Int)) (q := 1) rfl rfl (by omega)) rfl rfl rfl ?_
        refine o_pure (p_assign (v := .int .i64 ((i : Int) + 1)) rfl) rfl rfl rfl ?_
        refine o_nil ?_
        refine q_round hK11 ((all_ && (c.frames[i]).used), (c.frames[i]).used, i + 1) ?_ ?_ ?_ ?_
        · clear hK11
          first | exact hI.hit (by omega) (by assumption) | exact hI.miss (by omega) (by assumption)
        · (try dsimp only); omega
        · exact Sub.cons rfl (Sub.cons rfl (Sub.cons rfl (Sub.cons rfl (Sub.cons rfl (Sub.cons rfl (Sub.cons rfl (Sub.nil _)))))))
        · exact fun _ hw => HeapIs.pick hw [0, 1, 2, 3] (by decide) rfl
      · simp only [beq_eq_false_iff_ne, ne_eq] at hc14
        refine c_skip ?_
        refine q_block_normal (q_then ?_)
        refine c_region ?_
        refine o_pure (p_move (v := .int .i64 (i : Int)) rfl) rfl rfl rfl ?_
        refine o_pure (p_addb (p := (i : Int)) (q := 1) rfl rfl (by omega)) rfl rfl rfl ?_
        refine o_pure (p_assign (v := .int .i64 ((i : Int) + 1)) rfl) rfl rfl rfl ?_
        refine o_nil ?_
        refine q_round hK11 ((all_ && (c.frames[i]).used), used_, i + 1) ?_ ?_ ?_ ?_
        · clear hK11
          first | exact hI.hit (by omega) (by assumption) | exact hI.miss (by omega) (by assumption)
        · (try dsimp only); omega
        · exact Sub.cons rfl (Sub.cons rfl (Sub.cons rfl (Sub.cons rfl (Sub.cons rfl (Sub.cons rfl (Sub.cons rfl (Sub.nil _)))))))
        · exact fun _ hw => HeapIs.pick hw [0, 1, 2, 3] (by decide) rfl
    · simp only [decide_eq_false_iff_not, Int.not_lt] at hc12
      have hI0 := hI
      refine c_exit ?_
      refine q_then_exit (q_then_exit (q_block_exit (q_then ?_)))
      refine c_seq ?_
      refine c_region ?_
      refine o_pure (p_assign (v := .int .i64 0) rfl) rfl rfl rfl ?_
      refine o_nil ?_
      refine q_then ?_
      refine c_seq ?_
      refine c_seq ?_
      refine c_region ?_
      refine o_pure (p_assign (v := .int .i64 0) rfl) rfl rfl rfl ?_
      refine o_nil ?_
      refine q_then ?_
      refine c_block ?_
      refine c_loop (St := Int × Nat)
        (fun ⟨left_, j⟩ => [(1, .int .i64 key), (2, .pointer (some ⟨B1, 0, none⟩)), (5, .pointer (some ⟨B6, 0, none⟩)), (7, .int .i64 ((Clock.access c key).2.2)), (9, .bool all_), (10, .bool used_), (12, .int .i64 left_), (13, .int .i64 (j : Int))])
        (fun ⟨left_, j⟩ => [box B6 [.int .i64 (((Clock.access c key).1).room), .int .i64 (((Clock.access c key).1).hand), .slice a4 (((Clock.access c key).1).frames).length c5] 59, own tFrame S2 a4 c5 (((Clock.access c key).1).frames), box B1 [.int .i64 c.room, .int .i64 c.hand, .slice ac_0 c.frames.length cc_0] 59, base w0])
        (fun ⟨left_, j⟩ => Clock.SqInv (Clock.access c key).1.frames key left_ j)
        (fun ⟨left_, j⟩ => (Clock.access c key).1.frames.length - j)
        (0, 0) ?_ (Sub.cons rfl (Sub.cons rfl (Sub.cons rfl (Sub.cons rfl (Sub.cons rfl (Sub.cons rfl (Sub.cons rfl (Sub.cons rfl (Sub.nil _))))))))) (fun _ hw => hw) ?_
      · exact Clock.SqInv.start _ _
      rintro ⟨left_, j⟩ hI K hK15
      have hbd := hI.bd
      show SC Try.prog 115 w0 _ _ [(1, .int .i64 key), (2, .pointer (some ⟨B1, 0, none⟩)), (5, .pointer (some ⟨B6, 0, none⟩)), (7, .int .i64 ((Clock.access c key).2.2)), (9, .bool all_), (10, .bool used_), (12, .int .i64 left_), (13, .int .i64 (j : Int))] [box B6 [.int .i64 (((Clock.access c key).1).room), .int .i64 (((Clock.access c key).1).hand), .slice a4 (((Clock.access c key).1).frames).length c5] 59, own tFrame S2 a4 c5 (((Clock.access c key).1).frames), box B1 [.int .i64 c.room, .int .i64 c.hand, .slice ac_0 c.frames.length cc_0] 59, base w0]
      refine c_seq ?_
      refine c_seq ?_
      refine c_region ?_
      refine o_pure (p_move (v := .int .i64 (j : Int)) rfl) rfl rfl rfl ?_
      refine o_pure (p_fieldAddr (B := B6) (j := 0) (j' := 2) rfl fo59_2 rfl) rfl rfl rfl ?_
      refine o_pure (p_load (i := 0) (v := .slice a4 (((Clock.access c key).1).frames).length c5) rfl rfl sh57 rfl) rfl rfl rfl ?_
      refine o_pure (p_len_slice (len := (((Clock.access c key).1).frames).length) rfl rfl Try.underlying57) rfl rfl rfl ?_
      refine o_pure (p_lt (p := (j : Int)) (q := ((((Clock.access c key).1).frames).length : Int)) rfl rfl) rfl rfl rfl ?_
      refine o_nil ?_
      refine q_then ?_
      refine c_cond (b := decide ((j : Int) < ((((Clock.access c key).1).frames).length : Int))) rfl (fun hc16 => ?_) (fun hc16 => ?_)
      · simp only [decide_eq_true_eq] at hc16
        refine c_skip ?_
        refine q_then ?_
        refine c_seq ?_
        refine c_block ?_
        refine c_seq ?_
        refine c_seq ?_
        refine c_region ?_
        refine o_pure (p_fieldAddr (B := B6) (j := 0) (j' := 2) rfl fo59_2 rfl) rfl rfl rfl ?_
        refine o_pure (p_load (i := 0) (v := .slice a4 (((Clock.access c key).1).frames).length c5) rfl rfl sh57 rfl) rfl rfl rfl ?_
        refine o_pure (p_move (v := .int .i64 (j : Int)) rfl) rfl rfl rfl ?_
        refine o_pure (p_indexAddr (L := ((Clock.access c key).1).frames) (T := tFrame) (i := (j : Int)) rfl rfl (rd_own (i := 1) rfl) Try.underlying57 sz73 (by omega) (by omega)) rfl rfl rfl ?_
        refine o_pure (p_fieldAddrE rfl fo73_0) rfl rfl rfl ?_
        refine o_pure (p_loadF (i := j) (j := 0) (T := tFrame) (L := ((Clock.access c key).1).frames) (v := .int .i64 (((((Clock.access c key).1).frames)[j]).key)) rfl (rd_own (i := 1) rfl) (by first | assumption | omega) sh3 rfl) rfl rfl rfl ?_
        refine o_pure (p_move (v := .int .i64 ((Clock.access c key).2.2)) rfl) rfl rfl rfl ?_
        refine o_pure (p_eq (p := ((((Clock.access c key).1).frames)[j]).key) (q := ((Clock.access c key).2.2)) rfl rfl) rfl rfl rfl ?_
        refine o_nil ?_
        refine q_then ?_
        refine c_cond (b := (((((Clock.access c key).1).frames)[j]).key == ((Clock.access c key).2.2))) rfl (fun hc17 => ?_) (fun hc17 => ?_)
        · simp only [beq_iff_eq] at hc17
          exfalso; exact hsp.1 j (by omega) hc17
        · simp only [beq_eq_false_iff_ne, ne_eq] at hc17
          refine c_skip ?_
          refine q_then ?_
          refine c_seq ?_
          refine c_region ?_
          refine o_pure (p_fieldAddr (B := B6) (j := 0) (j' := 2) rfl fo59_2 rfl) rfl rfl rfl ?_
          refine o_pure (p_load (i := 0) (v := .slice a4 (((Clock.access c key).1).frames).length c5) rfl rfl sh57 rfl) rfl rfl rfl ?_
          refine o_pure (p_move (v := .int .i64 (j : Int)) rfl) rfl rfl rfl ?_
          refine o_pure (p_indexAddr (L := ((Clock.access c key).1).frames) (T := tFrame) (i := (j : Int)) rfl rfl (rd_own (i := 1) rfl) Try.underlying57 sz73 (by omega) (by omega)) rfl rfl rfl ?_
          refine o_pure (p_fieldAddrE rfl fo73_0) rfl rfl rfl ?_
          refine o_pure (p_loadF (i := j) (j := 0) (T := tFrame) (L := ((Clock.access c key).1).frames) (v := .int .i64 (((((Clock.access c key).1).frames)[j]).key)) rfl (rd_own (i := 1) rfl) (by first | assumption | omega) sh3 rfl) rfl rfl rfl ?_
          refine o_pure (p_move (v := .int .i64 key) rfl) rfl rfl rfl ?_
          refine o_pure (p_eq (p := ((((Clock.access c key).1).frames)[j]).key) (q := key) rfl rfl) rfl rfl rfl ?_
          refine o_nil ?_
          refine q_then ?_
          refine c_cond (b := (((((Clock.access c key).1).frames)[j]).key == key)) rfl (fun hc18 => ?_) (fun hc18 => ?_)
          · simp only [beq_iff_eq] at hc18
            refine c_region ?_
            refine o_pure (p_move (v := .int .i64 left_) rfl) rfl rfl rfl ?_
            refine o_pure (p_addb (p := left_) (q := 1) rfl rfl (by omega)) rfl rfl rfl ?_
            refine o_pure (p_assign (v := .int .i64 (left_ + 1)) rfl) rfl rfl rfl ?_
            refine o_nil ?_
            refine q_block_normal (q_then ?_)
            refine c_region ?_
            refine o_pure (p_move (v := .int .i64 (j : Int)) rfl) rfl rfl rfl ?_
            refine o_pure (p_addb (p := (j : Int)) (q := 1) rfl rfl (by omega)) rfl rfl rfl ?_
            refine o_pure (p_assign (v := .int .i64 ((j : Int) + 1)) rfl) rfl rfl rfl ?_
            refine o_nil ?_
            refine q_round hK15 ((left_ + 1), j + 1) ?_ ?_ ?_ ?_
            · clear hK15
              first | exact hI.hit (by omega) (by assumption) | exact hI.miss (by omega) (by assumption)
            · (try dsimp only); omega
            · exact Sub.cons rfl (Sub.cons rfl (Sub.cons rfl (Sub.cons rfl (Sub.cons rfl (Sub.cons rfl (Sub.cons rfl (Sub.cons rfl (Sub.nil _))))))))
            · exact fun _ hw => HeapIs.pick hw [0, 1, 2, 3] (by decide) rfl
          · simp only [beq_eq_false_iff_ne, ne_eq] at hc18
            refine c_skip ?_
            refine q_block_normal (q_then ?_)
            refine c_region ?_
            refine o_pure (p_move (v := .int .i64 (j : Int)) rfl) rfl rfl rfl ?_
            refine o_pure (p_addb (p := (j : Int)) (q := 1) rfl rfl (by omega)) rfl rfl rfl ?_
            refine o_pure (p_assign (v := .int .i64 ((j : Int) + 1)) rfl) rfl rfl rfl ?_
            refine o_nil ?_
            refine q_round hK15 (left_, j + 1) ?_ ?_ ?_ ?_
            · clear hK15
              first | exact hI.hit (by omega) (by assumption) | exact hI.miss (by omega) (by assumption)
            · (try dsimp only); omega
            · exact Sub.cons rfl (Sub.cons rfl (Sub.cons rfl (Sub.cons rfl (Sub.cons rfl (Sub.cons rfl (Sub.cons rfl (Sub.cons rfl (Sub.nil _))))))))
            · exact fun _ hw => HeapIs.pick hw [0, 1, 2, 3] (by decide) rfl
      · simp only [decide_eq_false_iff_not, Int.not_lt] at hc16
        refine c_exit ?_
        refine q_then_exit (q_then_exit (q_block_exit (q_then ?_)))
        refine c_seq ?_
        refine c_region ?_
        refine o_pure (p_move (v := .bool used_) rfl) rfl rfl rfl ?_
        refine o_pure (p_move (v := .bool all_) rfl) rfl rfl rfl ?_
        refine o_pure (p_eqBool (b := used_) (c := all_) rfl rfl Try.underlying4) rfl rfl rfl ?_
        refine o_pure (p_move (v := .bool (used_ == all_)) rfl) rfl rfl rfl ?_
        refine o_and (p := 101) 3 (left_ == 1) ?_ ?_ ?_
        · intro hb19 hk
          simp only [beq_iff_eq] at hb19
          refine o_unguard 98 rfl rfl ?_
          refine o_pure (p_move (v := .int .i64 left_) rfl) rfl rfl rfl ?_
          refine o_unguard 98 rfl rfl ?_
          refine o_pure (p_eq (p := left_) (q := 1) rfl rfl) rfl rfl rfl ?_
          refine o_pure (p_pick_true (u := .bool (left_ == 1)) rfl rfl) rfl rfl rfl ?_
          exact o_sub (Sub.cons rfl (Sub.skip rfl (Sub.skip rfl (Sub.skip rfl (Sub.skip rfl (Sub.refl _)))))) hk
        · intro hb19 hk
          refine o_guard_no rfl 98 rfl rfl rfl rfl rfl ?_
          refine o_guard_no rfl 98 rfl rfl rfl rfl rfl ?_
          refine o_pure (p_pick_false (v := .bool false) rfl rfl) rfl rfl rfl ?_
          exact o_sub (Sub.cons rfl (Sub.skip rfl (Sub.skip rfl (Sub.skip rfl (Sub.skip rfl (Sub.refl _)))))) hk
        refine o_pure (p_move (v := .bool ((used_ == all_) && (left_ == 1))) rfl) rfl rfl rfl ?_
        refine o_and (p := 109) 7 (((((Clock.access c key).1).frames).length : Int) == c.room) ?_ ?_ ?_
        · intro hb20 hk
          simp only [Bool.and_eq_true, beq_iff_eq] at hb20
          refine o_unguard 102 rfl rfl ?_
          refine o_pure (p_fieldAddr (B := B6) (j := 0) (j' := 2) rfl fo59_2 rfl) rfl rfl rfl ?_
          refine o_unguard 102 rfl rfl ?_
          refine o_pure (p_load (i := 0) (v := .slice a4 (((Clock.access c key).1).frames).length c5) rfl rfl sh57 rfl) rfl rfl rfl ?_
          refine o_unguard 102 rfl rfl ?_
          refine o_pure (p_len_slice (len := (((Clock.access c key).1).frames).length) rfl rfl Try.underlying57) rfl rfl rfl ?_
          refine o_unguard 102 rfl rfl ?_
          refine o_pure (p_fieldAddr (B := B1) (j := 0) (j' := 0) rfl fo59_0 rfl) rfl rfl rfl ?_
          refine o_unguard 102 rfl rfl ?_
          refine o_pure (p_load (i := 2) (v := .int .i64 c.room) rfl rfl sh3 rfl) rfl rfl rfl ?_
          refine o_unguard 102 rfl rfl ?_
          refine o_pure (p_eq (p := ((((Clock.access c key).1).frames).length : Int)) (q := c.room) rfl rfl) rfl rfl rfl ?_
          refine o_pure (p_pick_true (u := .bool (((((Clock.access c key).1).frames).length : Int) == c.room)) rfl rfl) rfl rfl rfl ?_
          exact o_sub (Sub.cons rfl (Sub.skip rfl (Sub.skip rfl (Sub.skip rfl (Sub.skip rfl (Sub.skip rfl (Sub.skip rfl (Sub.skip rfl (Sub.skip rfl (Sub.refl _)))))))))) hk
        · intro hb20 hk
          refine o_guard_no rfl 102 rfl rfl rfl rfl rfl ?_
          refine o_guard_no rfl 102 rfl rfl rfl rfl rfl ?_
          refine o_guard_no rfl 102 rfl rfl rfl rfl rfl ?_
          refine o_guard_no rfl 102 rfl rfl rfl rfl rfl ?_
          refine o_guard_no rfl 102 rfl rfl rfl rfl rfl ?_
          refine o_guard_no rfl 102 rfl rfl rfl rfl rfl ?_
          refine o_pure (p_pick_false (v := .bool false) rfl rfl) rfl rfl rfl ?_
          exact o_sub (Sub.cons rfl (Sub.skip rfl (Sub.skip rfl (Sub.skip rfl (Sub.skip rfl (Sub.skip rfl (Sub.skip rfl (Sub.skip rfl (Sub.skip rfl (Sub.refl _)))))))))) hk
        refine o_pure (p_move (v := .bool (((used_ == all_) && (left_ == 1)) && (((((Clock.access c key).1).frames).length : Int) == c.room))) rfl) rfl rfl rfl ?_
        refine o_and (p := 114) 4 ((Clock.check ((Clock.access c key).1)) == 0) ?_ ?_ ?_
        · intro hb21 hk
          simp only [Bool.and_eq_true, beq_iff_eq] at hb21
          refine o_unguard 110 rfl rfl ?_
          refine o_pure (p_load_agg (i := 0) (vs := [.int .i64 (((Clock.access c key).1).room), .int .i64 (((Clock.access c key).1).hand), .slice a4 (((Clock.access c key).1).frames).length c5]) rfl rfl sh59 rfl rfl) rfl rfl rfl ?_
          refine o_unguard 110 rfl rfl ?_
          refine o_call0 (v := .int .i64 (Clock.check ((Clock.access c key).1))) rfl (ccheck_ok ((Clock.access c key).1) a4 c5) hf45 (fun w hw => (rd_own (i := 1) rfl) w hw) rfl ?_
          refine o_unguard 110 rfl rfl ?_
          refine o_pure (p_eq (p := (Clock.check ((Clock.access c key).1))) (q := 0) rfl rfl) rfl rfl rfl ?_
          refine o_pure (p_pick_true (u := .bool ((Clock.check ((Clock.access c key).1)) == 0)) rfl rfl) rfl rfl rfl ?_
          exact o_sub (Sub.cons rfl (Sub.skip rfl (Sub.skip rfl (Sub.skip rfl (Sub.skip rfl (Sub.skip rfl (Sub.refl _))))))) hk
        · intro hb21 hk
          refine o_guard_no rfl 110 rfl rfl rfl rfl rfl ?_
          refine o_guard_no rfl 110 rfl rfl rfl rfl rfl ?_
          refine o_guard_no rfl 110 rfl rfl rfl rfl rfl ?_
          refine o_pure (p_pick_false (v := .bool false) rfl rfl) rfl rfl rfl ?_
          exact o_sub (Sub.cons rfl (Sub.skip rfl (Sub.skip rfl (Sub.skip rfl (Sub.skip rfl (Sub.skip rfl (Sub.refl _))))))) hk
        refine o_pure (p_assign (v := .bool ((((used_ == all_) && (left_ == 1)) && (((((Clock.access c key).1).frames).length : Int) == c.room)) && ((Clock.check ((Clock.access c key).1)) == 0))) rfl) rfl rfl rfl ?_
        refine o_nil ?_
        refine q_then ?_
        refine c_ret ?_
        have hr0 : (((((used_ == all_) && (left_ == 1)) && (((((Clock.access c key).1).frames).length : Int) == c.room)) && ((Clock.check ((Clock.access c key).1)) == 0)) : Bool) = true := by
          first | exact Clock.spares_bool | exact Clock.spares_end hsq.1.1 hsq.1.2 hsq.2 hI0 (by omega) hI (by omega)
        refine q_end0 (v := .bool ((((used_ == all_) && (left_ == 1)) && (((((Clock.access c key).1).frames).length : Int) == c.room)) && ((Clock.check ((Clock.access c key).1)) == 0))) (rt1 rfl (r_tmp rfl)) (i := 3) rfl ?_
        exact (by have hcc := congrArg (fun (y0 : Bool) => (.bool y0 : Value)) hr0; exact hcc)
end Go.Proofs.Ythbfdhphnofacab
