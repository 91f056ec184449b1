/- The walks, printed by a program from the translation and a specification. -/
import Derived.Test.YthbfdhphnofacabGrF
import Derived.Test.YthbfdhphnofacabGrLaw3
import Derived.Test.YthbfdhphnofacabGrW5
namespace Go.Proofs.Ythbfdhphnofacab
open Go.Sx Go.RowKit
set_option maxHeartbeats 8000000 in
set_option maxRecDepth 100000 in
theorem victims1_ok (key : Int) (Bh : Nat) (h : DGreedy) (ah_0 : Option Addr) (ch_0 : Nat) : Fn0 Try.prog 35 [.int .i64 key, .pointer (some ⟨Bh, 0, none⟩)] (fun w => Rd tItem w ah_0 ch_0 h.things ∧ (box Bh [.int .i64 h.room, .int .i64 h.floor, .slice ah_0 h.things.length ch_0] 39).A w) (.int .i64 (Greedy.worthOf h.things key)) := by
  refine fn0 (nt := 26) (F0 := [(0, .int .i64 key), (1, .pointer (some ⟨Bh, 0, none⟩))]) Try.func35 rfl Try.ntmps35 rfl rfl (fun w0 hpre => ?_)
  obtain ⟨hh_0, hBh⟩ := hpre
  have hlhh_0 := hh_0.2.1
  refine c_seq ?_
  refine c_region ?_
  refine o_pure (p_assign (v := .int .i64 0) rfl) rfl rfl rfl ?_
  refine o_nil ?_
  refine q_then ?_
  refine c_seq ?_
  refine c_seq ?_
  refine c_region ?_
  refine o_pure (p_assign (v := .int .i64 0) rfl) rfl rfl rfl ?_
  refine o_nil ?_
  refine q_then ?_
  refine c_block ?_
  refine c_loop (St := Nat)
    (fun i => [(0, .int .i64 key), (1, .pointer (some ⟨Bh, 0, none⟩)), (4, .int .i64 (i : Int))])
    (fun i => [base w0])
    (fun i => i ≤ h.things.length ∧ ∀ j (hj : j < h.things.length), j < i → h.things[j].key ≠ key)
    (fun i => h.things.length - i)
    0 ?_ (Sub.cons rfl (Sub.cons rfl (Sub.cons rfl (Sub.nil _)))) (fun _ hw => hw) ?_
  · exact ⟨Nat.zero_le _, fun j _ h => absurd h (by omega)⟩
  rintro i hI K hK1
  show SC _ _ Try.prog 26 w0 _ _ [(0, .int .i64 key), (1, .pointer (some ⟨Bh, 0, none⟩)), (4, .int .i64 (i : Int))] [base w0]
  refine c_seq ?_
  refine c_seq ?_
  refine c_region ?_
  refine o_pure (p_move (v := .int .i64 (i : Int)) rfl) rfl rfl rfl ?_
  refine o_pure (p_fieldAddr (B := Bh) (j := 0) (j' := 2) rfl fo39_2 rfl) rfl rfl rfl ?_
  refine o_pure (p_loadR (v := .slice ah_0 h.things.length ch_0) rfl (rbox_base (i := 0) rfl hBh) sh37 rfl) rfl rfl rfl ?_
  refine o_pure (p_len_slice (len := h.things.length) rfl rfl Try.underlying37) rfl rfl rfl ?_
  refine o_pure (p_lt (p := (i : Int)) (q := (h.things.length : Int)) rfl rfl) rfl rfl rfl ?_
  refine o_nil ?_
  refine q_then ?_
  refine c_cond (b := decide ((i : Int) < (h.things.length : Int))) rfl (fun hc2 => ?_) (fun hc2 => ?_)
  · simp only [decide_eq_true_eq] at hc2
    refine c_skip ?_
    refine q_then ?_
    refine c_seq ?_
    refine c_block ?_
    refine c_seq ?_
    refine c_region ?_
    refine o_pure (p_fieldAddr (B := Bh) (j := 0) (j' := 2) rfl fo39_2 rfl) rfl rfl rfl ?_
    refine o_pure (p_loadR (v := .slice ah_0 h.things.length ch_0) rfl (rbox_base (i := 0) rfl hBh) sh37 rfl) rfl rfl rfl ?_
    refine o_pure (p_move (v := .int .i64 (i : Int)) rfl) rfl rfl rfl ?_
    refine o_pure (p_indexAddr (L := h.things) (T := tItem) (i := (i : Int)) rfl rfl (rd_base (i := 0) rfl hh_0) Try.underlying37 sz41 (by omega) (by omega)) rfl rfl rfl ?_
    refine o_pure (p_fieldAddrE rfl fo41_0) rfl rfl rfl ?_
    refine o_pure (p_loadF (i := i) (j := 0) (T := tItem) (L := h.things) (v := .int .i64 ((h.things[i]).key)) rfl (rd_base (i := 0) rfl hh_0) (by first | assumption | omega) sh3 rfl) rfl rfl rfl ?_
    refine o_pure (p_move (v := .int .i64 key) rfl) rfl rfl rfl ?_
    refine o_pure (p_eq (p := (h.things[i]).key) (q := key) rfl rfl) rfl rfl rfl ?_
    refine o_nil ?_
    refine q_then ?_
    refine c_cond (b := ((h.things[i]).key == key)) rfl (fun hc3 => ?_) (fun hc3 => ?_)
    · simp only [beq_iff_eq] at hc3
      refine c_seq ?_
      refine c_region ?_
      refine o_pure (p_fieldAddr (B := Bh) (j := 0) (j' := 2) rfl fo39_2 rfl) rfl rfl rfl ?_
      refine o_pure (p_loadR (v := .slice ah_0 h.things.length ch_0) rfl (rbox_base (i := 0) rfl hBh) sh37 rfl) rfl rfl rfl ?_
      refine o_pure (p_move (v := .int .i64 (i : Int)) rfl) rfl rfl rfl ?_
      refine o_pure (p_indexAddr (L := h.things) (T := tItem) (i := (i : Int)) rfl rfl (rd_base (i := 0) rfl hh_0) Try.underlying37 sz41 (by omega) (by omega)) rfl rfl rfl ?_
      refine o_pure (p_fieldAddrE rfl fo41_3) rfl rfl rfl ?_
      refine o_pure (p_loadF (i := i) (j := 3) (T := tItem) (L := h.things) (v := .int .i64 ((h.things[i]).worth)) rfl (rd_base (i := 0) rfl hh_0) (by first | assumption | omega) sh3 rfl) rfl rfl rfl ?_
      refine o_pure (p_assign (v := .int .i64 ((h.things[i]).worth)) rfl) rfl rfl rfl ?_
      refine o_nil ?_
      refine q_then ?_
      refine c_ret ?_
      refine q_block_ret (q_then_ret (q_then_ret (q_block_ret (q_then_ret ?_))))
      have hr0 : ((h.things[i]).worth : Int) = (Greedy.worthOf h.things key) := by
        first | exact (Greedy.worth_found (by omega) (by assumption) (fun j hj hlt => hI.2 j hj hlt)).symm | exact (Greedy.worth_none (fun j hj => hI.2 j hj (by omega))).symm
      refine q_end0 (v := .int .i64 ((h.things[i]).worth)) (rt1 rfl (r_tmp rfl)) (i := 0) rfl ?_
      exact (by have hcc := congrArg (fun (y0 : Int) => (.int .i64 y0 : Value)) hr0; exact hcc)
    · simp only [beq_eq_false_iff_ne, ne_eq] at hc3
      refine c_skip ?_
      refine q_block_normal (q_then ?_)
      refine c_region ?_
      refine o_pure (p_move (v := .int .i64 (i : Int)) rfl) rfl rfl rfl ?_
      refine o_pure (p_addb (p := (i : Int)) (q := 1) rfl rfl (by omega)) rfl rfl rfl ?_
      refine o_pure (p_assign (v := .int .i64 ((i : Int) + 1)) rfl) rfl rfl rfl ?_
      refine o_nil ?_
      refine q_round hK1 (i + 1) ?_ ?_ ?_ ?_
      · clear hK1
        refine ⟨by omega, fun j hj h2 => ?_⟩
        by_cases e : j = i
        · subst e; assumption
        · exact hI.2 j hj (by omega)
      · (try dsimp only); omega
      · exact Sub.cons rfl (Sub.cons rfl (Sub.cons rfl (Sub.nil _)))
      · exact fun _ hw => HeapIs.pick hw [0] (by decide) rfl
  · simp only [decide_eq_false_iff_not, Int.not_lt] at hc2
    refine c_exit ?_
    refine q_then_exit (q_then_exit (q_block_exit (q_then ?_)))
    refine c_seq ?_
    refine c_region ?_
    refine o_pure (p_assign (v := .int .i64 (-1)) rfl) rfl rfl rfl ?_
    refine o_nil ?_
    refine q_then ?_
    refine c_ret ?_
    have hr0 : ((-1) : Int) = (Greedy.worthOf h.things key) := by
      first | exact (Greedy.worth_found (by omega) (by assumption) (fun j hj hlt => hI.2 j hj hlt)).symm | exact (Greedy.worth_none (fun j hj => hI.2 j hj (by omega))).symm
    refine q_end0 (v := .int .i64 (-1)) (rt1 rfl (r_tmp rfl)) (i := 0) rfl ?_
    exact (by have hcc := congrArg (fun (y0 : Int) => (.int .i64 y0 : Value)) hr0; exact hcc)

set_option maxHeartbeats 8000000 in
set_option maxRecDepth 100000 in
theorem greedyVictims_ok (h : DGreedy) (ah_0 : Option Addr) (ch_0 : Nat) (t : DItem) : Fn0 Try.prog 7 [.agg #[.int .i64 h.room, .int .i64 h.floor, .slice ah_0 h.things.length ch_0], .agg #[.int .i64 t.key, .int .i64 t.size, .int .i64 t.cost, .int .i64 t.worth]] (fun w => Rd tItem w ah_0 ch_0 h.things) (.bool true) := by
  refine fn0 (nt := 98) (F0 := [(0, .agg #[.int .i64 h.room, .int .i64 h.floor, .slice ah_0 h.things.length ch_0]), (1, .agg #[.int .i64 t.key, .int .i64 t.size, .int .i64 t.cost, .int .i64 t.worth])]) Try.func7 rfl Try.ntmps7 rfl rfl (fun w0 hpre => ?_)
  have hh_0 := hpre
  have hlhh_0 := hh_0.2.1
  refine c_seq ?_
  refine c_region ?_
  refine o_box (v := .agg #[.int .i64 h.room, .int .i64 h.floor, .slice ah_0 h.things.length ch_0]) rfl rfl (fun B1 => ?_)
  refine o_box (v := .agg #[.int .i64 t.key, .int .i64 t.size, .int .i64 t.cost, .int .i64 t.worth]) rfl rfl (fun B2 => ?_)
  refine o_pure (p_assign (v := .bool false) rfl) rfl rfl rfl ?_
  refine o_nil ?_
  refine q_then ?_
  refine c_seq ?_
  refine c_region ?_
  refine o_pure (p_load_agg (i := 1) (vs := [.int .i64 h.room, .int .i64 h.floor, .slice ah_0 h.things.length ch_0]) rfl rfl sh39 rfl rfl) rfl rfl rfl ?_
  refine o_pure (p_load_agg (i := 0) (vs := [.int .i64 t.key, .int .i64 t.size, .int .i64 t.cost, .int .i64 t.worth]) rfl rfl sh41 rfl rfl) rfl rfl rfl ?_
  refine o_callM rfl (gaccess_ok h ah_0 ch_0 t) hf24 (fun w hw => (rd_base (i := 2) rfl hh_0) w hw) rfl (fun _ _ _ _ ha hA => ⟨SlR.agree ha hA.1, SlR.agree ha hA.2⟩) ?_
  rintro ⟨a5, c6, a7, c8⟩ S3
  refine o_know (fun w hw => (hw.at (i := 0) rfl).here.1.2.1) (fun hlr9 => ?_)
  refine o_know (fun w hw => (hw.at (i := 0) rfl).here.2.2.1) (fun hlr10 => ?_)
  refine o_pure (p_move (v := .tuple #[.agg #[.int .i64 (((Greedy.access h t).1).room), .int .i64 (((Greedy.access h t).1).floor), .slice a5 (((Greedy.access h t).1).things).length c6], .bool ((Greedy.access h t).2.1), .slice a7 ((Greedy.access h t).2.2).length c8, .int .i64 (Greedy.accessErr h t)]) rfl) rfl rfl rfl ?_
  refine o_pure (p_extract (vs := [.agg #[.int .i64 (((Greedy.access h t).1).room), .int .i64 (((Greedy.access h t).1).floor), .slice a5 (((Greedy.access h t).1).things).length c6], .bool ((Greedy.access h t).2.1), .slice a7 ((Greedy.access h t).2.2).length c8, .int .i64 (Greedy.accessErr h t)]) (v := .agg #[.int .i64 (((Greedy.access h t).1).room), .int .i64 (((Greedy.access h t).1).floor), .slice a5 (((Greedy.access h t).1).things).length c6]) rfl rfl) rfl rfl rfl ?_
  refine o_pure (p_extract (vs := [.agg #[.int .i64 (((Greedy.access h t).1).room), .int .i64 (((Greedy.access h t).1).floor), .slice a5 (((Greedy.access h t).1).things).length c6], .bool ((Greedy.access h t).2.1), .slice a7 ((Greedy.access h t).2.2).length c8, .int .i64 (Greedy.accessErr h t)]) (v := .bool ((Greedy.access h t).2.1)) rfl rfl) rfl rfl rfl ?_
  refine o_pure (p_extract (vs := [.agg #[.int .i64 (((Greedy.access h t).1).room), .int .i64 (((Greedy.access h t).1).floor), .slice a5 (((Greedy.access h t).1).things).length c6], .bool ((Greedy.access h t).2.1), .slice a7 ((Greedy.access h t).2.2).length c8, .int .i64 (Greedy.accessErr h t)]) (v := .slice a7 ((Greedy.access h t).2.2).length c8) rfl rfl) rfl rfl rfl ?_
  refine o_pure (p_extract (vs := [.agg #[.int .i64 (((Greedy.access h t).1).room), .int .i64 (((Greedy.access h t).1).floor), .slice a5 (((Greedy.access h t).1).things).length c6], .bool ((Greedy.access h t).2.1), .slice a7 ((Greedy.access h t).2.2).length c8, .int .i64 (Greedy.accessErr h t)]) (v := .int .i64 (Greedy.accessErr h t)) rfl rfl) rfl rfl rfl ?_
  refine o_alloc ze39 rfl (fun B11 => ?_)
  refine o_storeN (i := 0) (vs := [.int .i64 (((Greedy.access h t).1).room), .int .i64 (((Greedy.access h t).1).floor), .slice a5 (((Greedy.access h t).1).things).length c6]) (cs' := [.int .i64 (((Greedy.access h t).1).room), .int .i64 (((Greedy.access h t).1).floor), .slice a5 (((Greedy.access h t).1).things).length c6]) rfl rfl rfl sz39 rfl rfl rfl rfl ?_
  refine o_pure (p_assign (v := .bool ((Greedy.access h t).2.1)) rfl) rfl rfl rfl ?_
  refine o_pure (p_assign (v := .slice a7 ((Greedy.access h t).2.2).length c8) rfl) rfl rfl rfl ?_
  refine o_pure (p_assign (v := .int .i64 (Greedy.accessErr h t)) rfl) rfl rfl rfl ?_
  refine o_nil ?_
  refine q_then ?_
  refine c_seq ?_
  refine c_seq ?_
  refine c_region ?_
  refine o_call0 (v := .bool true) rfl (hoardBegun_ok ) hf32 (fun _ _ => trivial) rfl ?_
  refine o_pure (p_not (b := true) rfl) rfl rfl rfl ?_
  refine o_nil ?_
  refine q_then ?_
  refine c_false rfl ?_
  refine c_skip ?_
  refine q_then ?_
  refine c_seq ?_
  refine c_seq ?_
  refine c_region ?_
  refine o_pure (p_move (v := .int .i64 (Greedy.accessErr h t)) rfl) rfl rfl rfl ?_
  refine o_pure (p_ne (p := (Greedy.accessErr h t)) (q := 0) rfl rfl) rfl rfl rfl ?_
  refine o_pure (p_move (v := .bool ((Greedy.accessErr h t) != 0)) rfl) rfl rfl rfl ?_
  refine o_or (p := 29) 2 ((Greedy.access h t).2.1) ?_ ?_ ?_
  · intro hb12 hk
    simp only [bne_eq_false_iff_eq] at hb12
    refine o_unguard 27 rfl rfl ?_
    refine o_pure (p_move (v := .bool ((Greedy.access h t).2.1)) rfl) rfl rfl rfl ?_
    refine o_pure (p_pick_false (v := .bool ((Greedy.access h t).2.1)) rfl rfl) rfl rfl rfl ?_
    exact o_sub (Sub.cons rfl (Sub.skip rfl (Sub.skip rfl (Sub.skip rfl (Sub.refl _))))) hk
  · intro hb12 hk
    refine o_guard_no rfl 27 rfl rfl rfl rfl rfl ?_
    refine o_pure (p_pick_true (u := .bool true) rfl rfl) rfl rfl rfl ?_
    exact o_sub (Sub.cons rfl (Sub.skip rfl (Sub.skip rfl (Sub.skip rfl (Sub.refl _))))) hk
  refine o_nil ?_
  refine q_then ?_
  refine c_cond (b := (((Greedy.accessErr h t) != 0) || ((Greedy.access h t).2.1))) rfl (fun hc13 => ?_) (fun hc13 => ?_)
  · simp only [Bool.or_eq_true, bne_iff_ne, ne_eq] at hc13
    have hgn := Greedy.gone_acc hc13
    refine c_seq ?_
    refine c_region ?_
    refine o_pure (p_move (v := .slice a7 ((Greedy.access h t).2.2).length c8) rfl) rfl rfl rfl ?_
    refine o_pure (p_len_slice (len := ((Greedy.access h t).2.2).length) rfl rfl Try.underlying22) rfl rfl rfl ?_
    refine o_pure (p_eq (p := (((Greedy.access h t).2.2).length : Int)) (q := 0) rfl rfl) rfl rfl rfl ?_
    refine o_pure (p_assign (v := .bool ((((Greedy.access h t).2.2).length : Int) == 0)) rfl) rfl rfl rfl ?_
    refine o_nil ?_
    refine q_then ?_
    refine c_ret ?_
    refine q_then_ret ?_
    have hr0 : (((((Greedy.access h t).2.2).length : Int) == 0) : Bool) = true := by
      first | (rw [hgn]; rfl) | exact Greedy.vict_bool hv hlast
    refine q_end0 (v := .bool ((((Greedy.access h t).2.2).length : Int) == 0)) (rt1 rfl (r_tmp rfl)) (i := 4) rfl ?_
    exact (by have hcc := congrArg (fun (y0 : Bool) => (.bool y0 : Value)) hr0; exact hcc)
  · simp only [Bool.or_eq_false_iff, bne_eq_false_iff_eq] at hc13
    obtain ⟨E, hv⟩ := Greedy.VS.of hc13.1 hc13.2
    refine c_skip ?_
    refine q_then ?_
    refine c_seq ?_
    refine c_region ?_
    refine o_pure (p_makeFunc (vs := [.pointer (some ⟨B1, 0, none⟩)]) rfl) rfl rfl rfl ?_
    refine o_pure (p_assign (v := .func (.func 35) #[] #[.pointer (some ⟨B1, 0, none⟩)]) rfl) rfl rfl rfl ?_
    refine o_nil ?_
    refine q_then ?_
    refine c_seq ?_
    refine c_region ?_
    refine o_pure (p_assign (v := .int .i64 0) rfl) rfl rfl rfl ?_
    refine o_nil ?_
    refine q_then ?_
    refine c_seq ?_
    refine c_seq ?_
    refine c_region ?_
    refine o_pure (p_assign (v := .int .i64 0) rfl) rfl rfl rfl ?_
    refine o_nil ?_
    refine q_then ?_
    refine c_block ?_
    refine c_loop (St := Int × Nat)
      (fun ⟨last, i⟩ => [(2, .pointer (some ⟨B1, 0, none⟩)), (5, .pointer (some ⟨B11, 0, none⟩)), (7, .slice a7 ((Greedy.access h t).2.2).length c8), (9, .func (.func 35) #[] #[.pointer (some ⟨B1, 0, none⟩)]), (10, .int .i64 last), (11, .int .i64 (i : Int))])
      (fun ⟨last, i⟩ => [box B11 [.int .i64 (((Greedy.access h t).1).room), .int .i64 (((Greedy.access h t).1).floor), .slice a5 (((Greedy.access h t).1).things).length c6] 39, ⟨S3, fun w => SlR tItem S3 w a5 c6 (((Greedy.access h t).1).things) ∧ SlR tInt S3 w a7 c8 ((Greedy.access h t).2.2)⟩, box B2 [.int .i64 t.key, .int .i64 t.size, .int .i64 t.cost, .int .i64 t.worth] 41, box B1 [.int .i64 h.room, .int .i64 h.floor, .slice ah_0 h.things.length ch_0] 39, base w0])
      (fun ⟨last, i⟩ => Greedy.EInv h E last i)
      (fun ⟨last, i⟩ => (Greedy.access h t).2.2.length - i)
      (0, 0) ?_ (Sub.cons rfl (Sub.cons rfl (Sub.cons rfl (Sub.cons rfl (Sub.cons rfl (Sub.cons rfl (Sub.nil _))))))) (fun _ hw => hw) ?_
    · exact Greedy.EInv.start _ _
    rintro ⟨last, i⟩ hI K hK14
    show SC _ _ Try.prog 98 w0 _ _ [(2, .pointer (some ⟨B1, 0, none⟩)), (5, .pointer (some ⟨B11, 0, none⟩)), (7, .slice a7 ((Greedy.access h t).2.2).length c8), (9, .func (.func 35) #[] #[.pointer (some ⟨B1, 0, none⟩)]), (10, .int .i64 last), (11, .int .i64 (i : Int))] [box B11 [.int .i64 (((Greedy.access h t).1).room), .int .i64 (((Greedy.access h t).1).floor), .slice a5 (((Greedy.access h t).1).things).length c6] 39, ⟨S3, fun w => SlR tItem S3 w a5 c6 (((Greedy.access h t).1).things) ∧ SlR tInt S3 w a7 c8 ((Greedy.access h t).2.2)⟩, box B2 [.int .i64 t.key, .int .i64 t.size, .int .i64 t.cost, .int .i64 t.worth] 41, box B1 [.int .i64 h.room, .int .i64 h.floor, .slice ah_0 h.things.length ch_0] 39, base w0]
    refine c_seq ?_
    refine c_seq ?_
    refine c_region ?_
    refine o_pure (p_move (v := .int .i64 (i : Int)) rfl) rfl rfl rfl ?_
    refine o_pure (p_move (v := .slice a7 ((Greedy.access h t).2.2).length c8) rfl) rfl rfl rfl ?_
    refine o_pure (p_len_slice (len := ((Greedy.access h t).2.2).length) rfl rfl Try.underlying22) rfl rfl rfl ?_
    refine o_pure (p_lt (p := (i : Int)) (q := (((Greedy.access h t).2.2).length : Int)) rfl rfl) rfl rfl rfl ?_
    refine o_nil ?_
    refine q_then ?_
    refine c_cond (b := decide ((i : Int) < (((Greedy.access h t).2.2).length : Int))) rfl (fun hc15 => ?_) (fun hc15 => ?_)
    · simp only [decide_eq_true_eq] at hc15
      refine c_skip ?_
      refine q_then ?_
      refine c_seq ?_
      refine c_block ?_
      refine c_seq ?_
      refine c_region ?_
      refine o_pure (p_move (v := .func (.func 35) #[] #[.pointer (some ⟨B1, 0, none⟩)]) rfl) rfl rfl rfl ?_
      refine o_pure (p_move (v := .slice a7 ((Greedy.access h t).2.2).length c8) rfl) rfl rfl rfl ?_
      refine o_pure (p_move (v := .int .i64 (i : Int)) rfl) rfl rfl rfl ?_
      refine o_pure (p_indexAddr (L := ((Greedy.access h t).2.2)) (T := tInt) (i := (i : Int)) rfl rfl (rd_ent (i := 1) rfl (fun w h => h.2)) Try.underlying22 sz3 (by omega) (by omega)) rfl rfl rfl ?_
      refine o_pure (p_loadE1 (i := i) (T := tInt) (L := ((Greedy.access h t).2.2)) (v := .int .i64 (((Greedy.access h t).2.2)[i])) rfl (rd_ent (i := 1) rfl (fun w h => h.2)) (by first | assumption | omega) sh3 rfl) rfl rfl rfl ?_
      refine o_call0V (vs := [.int .i64 (((Greedy.access h t).2.2)[i])]) (caps := [.pointer (some ⟨B1, 0, none⟩)]) (v := .int .i64 (Greedy.worthOf h.things (((Greedy.access h t).2.2)[i]))) rfl rfl (victims1_ok (((Greedy.access h t).2.2)[i]) B1 h ah_0 ch_0) hf35 (fun w hw => ⟨(rd_base (i := 4) rfl hh_0) w hw, (hw.at (i := 3) rfl).here⟩) rfl ?_
      refine o_pure (p_assign (v := .int .i64 (Greedy.worthOf h.things (((Greedy.access h t).2.2)[i]))) rfl) rfl rfl rfl ?_
      refine o_nil ?_
      refine q_then ?_
      refine c_seq ?_
      refine c_seq ?_
      refine c_region ?_
      refine o_pure (p_move (v := .int .i64 (Greedy.worthOf h.things (((Greedy.access h t).2.2)[i]))) rfl) rfl rfl rfl ?_
      refine o_pure (p_move (v := .int .i64 last) rfl) rfl rfl rfl ?_
      refine o_pure (p_lt (p := (Greedy.worthOf h.things (((Greedy.access h t).2.2)[i]))) (q := last) rfl rfl) rfl rfl rfl ?_
      refine o_nil ?_
      refine q_then ?_
      refine c_cond (b := decide ((Greedy.worthOf h.things (((Greedy.access h t).2.2)[i])) < last)) rfl (fun hc16 => ?_) (fun hc16 => ?_)
      · simp only [decide_eq_true_eq] at hc16
        exfalso
        have hq := (hI.step hv (by omega)).1
        omega
      · simp only [decide_eq_false_iff_not, Int.not_lt] at hc16
        refine c_skip ?_
        refine q_then ?_
        refine c_region ?_
        refine o_pure (p_move (v := .int .i64 (Greedy.worthOf h.things (((Greedy.access h t).2.2)[i]))) rfl) rfl rfl rfl ?_
        refine o_pure (p_assign (v := .int .i64 (Greedy.worthOf h.things (((Greedy.access h t).2.2)[i]))) rfl) rfl rfl rfl ?_
        refine o_nil ?_
        refine q_block_normal (q_then ?_)
        refine c_region ?_
        refine o_pure (p_move (v := .int .i64 (i : Int)) rfl) rfl rfl rfl ?_
        refine o_pure (p_addb (p := (i : Int)) (q := 1) rfl rfl (by omega)) rfl rfl rfl ?_
        refine o_pure (p_assign (v := .int .i64 ((i : Int) + 1)) rfl) rfl rfl rfl ?_
        refine o_nil ?_
        refine q_round hK14 ((Greedy.worthOf h.things (((Greedy.access h t).2.2)[i])), i + 1) ?_ ?_ ?_ ?_
        · clear hK14
          exact (hI.step hv (by omega)).2
        · (try dsimp only); omega
        · exact Sub.cons rfl (Sub.cons rfl (Sub.cons rfl (Sub.cons rfl (Sub.cons rfl (Sub.cons rfl (Sub.nil _))))))
        · exact fun _ hw => HeapIs.pick hw [0, 1, 2, 3, 4] (by decide) rfl
    · simp only [decide_eq_false_iff_not, Int.not_lt] at hc15
      have hlast := hI.done hv (by omega)
      refine c_exit ?_
      refine q_then_exit (q_then_exit (q_block_exit (q_then ?_)))
      refine c_seq ?_
      refine c_seq ?_
      refine c_region ?_
      refine o_pure (p_assign (v := .int .i64 0) rfl) rfl rfl rfl ?_
      refine o_nil ?_
      refine q_then ?_
      refine c_block ?_
      refine c_loop (St := Nat)
        (fun i => [(2, .pointer (some ⟨B1, 0, none⟩)), (5, .pointer (some ⟨B11, 0, none⟩)), (7, .slice a7 ((Greedy.access h t).2.2).length c8), (10, .int .i64 last), (13, .int .i64 (i : Int))])
        (fun i => [box B11 [.int .i64 (((Greedy.access h t).1).room), .int .i64 (((Greedy.access h t).1).floor), .slice a5 (((Greedy.access h t).1).things).length c6] 39, ⟨S3, fun w => SlR tItem S3 w a5 c6 (((Greedy.access h t).1).things) ∧ SlR tInt S3 w a7 c8 ((Greedy.access h t).2.2)⟩, box B2 [.int .i64 t.key, .int .i64 t.size, .int .i64 t.cost, .int .i64 t.worth] 41, box B1 [.int .i64 h.room, .int .i64 h.floor, .slice ah_0 h.things.length ch_0] 39, base w0])
        (fun i => i ≤ h.things.length)
        (fun i => h.things.length - i)
        0 ?_ (Sub.cons rfl (Sub.cons rfl (Sub.cons rfl (Sub.cons rfl (Sub.cons rfl (Sub.nil _)))))) (fun _ hw => hw) ?_
      · exact Nat.zero_le _
      rintro i hI K hK17
      show SC _ _ Try.prog 98 w0 _ _ [(2, .pointer (some ⟨B1, 0, none⟩)), (5, .pointer (some ⟨B11, 0, none⟩)), (7, .slice a7 ((Greedy.access h t).2.2).length c8), (10, .int .i64 last), (13, .int .i64 (i : Int))] [box B11 [.int .i64 (((Greedy.access h t).1).room), .int .i64 (((Greedy.access h t).1).floor), .slice a5 (((Greedy.access h t).1).things).length c6] 39, ⟨S3, fun w => SlR tItem S3 w a5 c6 (((Greedy.access h t).1).things) ∧ SlR tInt S3 w a7 c8 ((Greedy.access h t).2.2)⟩, box B2 [.int .i64 t.key, .int .i64 t.size, .int .i64 t.cost, .int .i64 t.worth] 41, box B1 [.int .i64 h.room, .int .i64 h.floor, .slice ah_0 h.things.length ch_0] 39, base w0]
      refine c_seq ?_
      refine c_seq ?_
      refine c_region ?_
      refine o_pure (p_move (v := .int .i64 (i : Int)) rfl) rfl rfl rfl ?_
      refine o_pure (p_fieldAddr (B := B1) (j := 0) (j' := 2) rfl fo39_2 rfl) rfl rfl rfl ?_
      refine o_pure (p_load (i := 3) (v := .slice ah_0 h.things.length ch_0) rfl rfl sh37 rfl) rfl rfl rfl ?_
      refine o_pure (p_len_slice (len := h.things.length) rfl rfl Try.underlying37) rfl rfl rfl ?_
      refine o_pure (p_lt (p := (i : Int)) (q := (h.things.length : Int)) rfl rfl) rfl rfl rfl ?_
      refine o_nil ?_
      refine q_then ?_
      refine c_cond (b := decide ((i : Int) < (h.things.length : Int))) rfl (fun hc18 => ?_) (fun hc18 => ?_)
      · simp only [decide_eq_true_eq] at hc18
        refine c_skip ?_
        refine q_then ?_
        refine c_seq ?_
        refine c_block ?_
        refine c_seq ?_
        refine c_region ?_
        refine o_pure (p_fieldAddr (B := B1) (j := 0) (j' := 2) rfl fo39_2 rfl) rfl rfl rfl ?_
        refine o_pure (p_load (i := 3) (v := .slice ah_0 h.things.length ch_0) rfl rfl sh37 rfl) rfl rfl rfl ?_
        refine o_pure (p_move (v := .int .i64 (i : Int)) rfl) rfl rfl rfl ?_
        refine o_pure (p_indexAddr (L := h.things) (T := tItem) (i := (i : Int)) rfl rfl (rd_base (i := 4) rfl hh_0) Try.underlying37 sz41 (by omega) (by omega)) rfl rfl rfl ?_
        refine o_pure (p_fieldAddrE rfl fo41_0) rfl rfl rfl ?_
        refine o_pure (p_loadF (i := i) (j := 0) (T := tItem) (L := h.things) (v := .int .i64 ((h.things[i]).key)) rfl (rd_base (i := 4) rfl hh_0) (by first | assumption | omega) sh3 rfl) rfl rfl rfl ?_
        refine o_pure (p_assign (v := .int .i64 ((h.things[i]).key)) rfl) rfl rfl rfl ?_
        refine o_nil ?_
        refine q_then ?_
        refine c_seq ?_
        refine c_region ?_
        refine o_pure (p_move (v := .slice a7 ((Greedy.access h t).2.2).length c8) rfl) rfl rfl rfl ?_
        refine o_pure (p_move (v := .int .i64 ((h.things[i]).key)) rfl) rfl rfl rfl ?_
        refine o_call0 (v := .bool (Ref.hasInt ((Greedy.access h t).2.2) ((h.things[i]).key))) rfl (hasInt_ok ((Greedy.access h t).2.2) a7 c8 ((h.things[i]).key)) hf36 (fun w hw => (rd_ent (i := 1) rfl (fun w h => h.2)) w hw) rfl ?_
        refine o_pure (p_not (b := (Ref.hasInt ((Greedy.access h t).2.2) ((h.things[i]).key))) rfl) rfl rfl rfl ?_
        refine o_pure (p_move (v := .bool (!(Ref.hasInt ((Greedy.access h t).2.2) ((h.things[i]).key)))) rfl) rfl rfl rfl ?_
        refine o_and (p := 76) 9 (decide ((h.things[i]).worth < last)) ?_ ?_ ?_
        · intro hb19 hk
          simp only [Bool.not_eq_true'] at hb19
          refine o_unguard 67 rfl rfl ?_
          refine o_pure (p_fieldAddr (B := B1) (j := 0) (j' := 2) rfl fo39_2 rfl) rfl rfl rfl ?_
          refine o_unguard 67 rfl rfl ?_
          refine o_pure (p_load (i := 3) (v := .slice ah_0 h.things.length ch_0) rfl rfl sh37 rfl) rfl rfl rfl ?_
          refine o_unguard 67 rfl rfl ?_
          refine o_pure (p_move (v := .int .i64 (i : Int)) rfl) rfl rfl rfl ?_
          refine o_unguard 67 rfl rfl ?_
          refine o_pure (p_indexAddr (L := h.things) (T := tItem) (i := (i : Int)) rfl rfl (rd_base (i := 4) rfl hh_0) Try.underlying37 sz41 (by omega) (by omega)) rfl rfl rfl ?_
          refine o_unguard 67 rfl rfl ?_
          refine o_pure (p_fieldAddrE rfl fo41_3) rfl rfl rfl ?_
          refine o_unguard 67 rfl rfl ?_
          refine o_pure (p_loadF (i := i) (j := 3) (T := tItem) (L := h.things) (v := .int .i64 ((h.things[i]).worth)) rfl (rd_base (i := 4) rfl hh_0) (by first | assumption | omega) sh3 rfl) rfl rfl rfl ?_
          refine o_unguard 67 rfl rfl ?_
          refine o_pure (p_move (v := .int .i64 last) rfl) rfl rfl rfl ?_
          refine o_unguard 67 rfl rfl ?_
          refine o_pure (p_lt (p := (h.things[i]).worth) (q := last) rfl rfl) rfl rfl rfl ?_
          refine o_pure (p_pick_true (u := .bool (decide ((h.things[i]).worth < last))) rfl rfl) rfl rfl rfl ?_
          exact o_sub (Sub.cons rfl (Sub.skip rfl (Sub.skip rfl (Sub.skip rfl (Sub.skip rfl (Sub.skip rfl (Sub.skip rfl (Sub.skip rfl (Sub.skip rfl (Sub.skip rfl (Sub.skip rfl (Sub.refl _)))))))))))) hk
        · intro hb19 hk
          refine o_guard_no rfl 67 rfl rfl rfl rfl rfl ?_
          refine o_guard_no rfl 67 rfl rfl rfl rfl rfl ?_
          refine o_guard_no rfl 67 rfl rfl rfl rfl rfl ?_
          refine o_guard_no rfl 67 rfl rfl rfl rfl rfl ?_
          refine o_guard_no rfl 67 rfl rfl rfl rfl rfl ?_
          refine o_guard_no rfl 67 rfl rfl rfl rfl rfl ?_
          refine o_guard_no rfl 67 rfl rfl rfl rfl rfl ?_
          refine o_guard_no rfl 67 rfl rfl rfl rfl rfl ?_
          refine o_pure (p_pick_false (v := .bool false) rfl rfl) rfl rfl rfl ?_
          exact o_sub (Sub.cons rfl (Sub.skip rfl (Sub.skip rfl (Sub.skip rfl (Sub.skip rfl (Sub.skip rfl (Sub.skip rfl (Sub.skip rfl (Sub.skip rfl (Sub.skip rfl (Sub.skip rfl (Sub.refl _)))))))))))) hk
        refine o_nil ?_
        refine q_then ?_
        refine c_cond (b := ((!(Ref.hasInt ((Greedy.access h t).2.2) ((h.things[i]).key))) && decide ((h.things[i]).worth < last))) rfl (fun hc20 => ?_) (fun hc20 => ?_)
        · simp only [Bool.and_eq_true, Bool.not_eq_true', decide_eq_true_eq] at hc20
          exfalso
          have hq := Greedy.vict_no hv hlast (i := i) (by omega) (by simpa [Ref.hasInt] using hc20.1)
          omega
        · simp only [Bool.and_eq_false_iff, Bool.not_eq_false', decide_eq_false_iff_not, Int.not_lt] at hc20
          refine c_skip ?_
          refine q_block_normal (q_then ?_)
          refine c_region ?_
          refine o_pure (p_move (v := .int .i64 (i : Int)) rfl) rfl rfl rfl ?_
          refine o_pure (p_addb (p := (i : Int)) (q := 1) rfl rfl (by omega)) rfl rfl rfl ?_
          refine o_pure (p_assign (v := .int .i64 ((i : Int) + 1)) rfl) rfl rfl rfl ?_
          refine o_nil ?_
          refine q_round hK17 (i + 1) ?_ ?_ ?_ ?_
          · clear hK17
            omega
          · (try dsimp only); omega
          · exact Sub.cons rfl (Sub.cons rfl (Sub.cons rfl (Sub.cons rfl (Sub.cons rfl (Sub.nil _)))))
          · exact fun _ hw => HeapIs.pick hw [0, 1, 2, 3, 4] (by decide) rfl
      · simp only [decide_eq_false_iff_not, Int.not_lt] at hc18
        refine c_exit ?_
        refine q_then_exit (q_then_exit (q_block_exit (q_then ?_)))
        refine c_seq ?_
        refine c_region ?_
        refine o_pure (p_move (v := .slice a7 ((Greedy.access h t).2.2).length c8) rfl) rfl rfl rfl ?_
        refine o_pure (p_len_slice (len := ((Greedy.access h t).2.2).length) rfl rfl Try.underlying22) rfl rfl rfl ?_
        refine o_pure (p_eq (p := (((Greedy.access h t).2.2).length : Int)) (q := 0) rfl rfl) rfl rfl rfl ?_
        refine o_pure (p_move (v := .bool ((((Greedy.access h t).2.2).length : Int) == 0)) rfl) rfl rfl rfl ?_
        refine o_and (p := 86) 6 (((Greedy.access h t).1).floor == h.floor) ?_ ?_ ?_
        · intro hb21 hk
          simp only [beq_iff_eq] at hb21
          refine o_unguard 80 rfl rfl ?_
          refine o_pure (p_fieldAddr (B := B11) (j := 0) (j' := 1) rfl fo39_1 rfl) rfl rfl rfl ?_
          refine o_unguard 80 rfl rfl ?_
          refine o_pure (p_load (i := 0) (v := .int .i64 (((Greedy.access h t).1).floor)) rfl rfl sh3 rfl) rfl rfl rfl ?_
          refine o_unguard 80 rfl rfl ?_
          refine o_pure (p_fieldAddr (B := B1) (j := 0) (j' := 1) rfl fo39_1 rfl) rfl rfl rfl ?_
          refine o_unguard 80 rfl rfl ?_
          refine o_pure (p_load (i := 3) (v := .int .i64 h.floor) rfl rfl sh3 rfl) rfl rfl rfl ?_
          refine o_unguard 80 rfl rfl ?_
          refine o_pure (p_eq (p := ((Greedy.access h t).1).floor) (q := h.floor) rfl rfl) rfl rfl rfl ?_
          refine o_pure (p_pick_true (u := .bool (((Greedy.access h t).1).floor == h.floor)) rfl rfl) rfl rfl rfl ?_
          exact o_sub (Sub.cons rfl (Sub.skip rfl (Sub.skip rfl (Sub.skip rfl (Sub.skip rfl (Sub.skip rfl (Sub.skip rfl (Sub.skip rfl (Sub.refl _))))))))) hk
        · intro hb21 hk
          refine o_guard_no rfl 80 rfl rfl rfl rfl rfl ?_
          refine o_guard_no rfl 80 rfl rfl rfl rfl rfl ?_
          refine o_guard_no rfl 80 rfl rfl rfl rfl rfl ?_
          refine o_guard_no rfl 80 rfl rfl rfl rfl rfl ?_
          refine o_guard_no rfl 80 rfl rfl rfl rfl rfl ?_
          refine o_pure (p_pick_false (v := .bool false) rfl rfl) rfl rfl rfl ?_
          exact o_sub (Sub.cons rfl (Sub.skip rfl (Sub.skip rfl (Sub.skip rfl (Sub.skip rfl (Sub.skip rfl (Sub.skip rfl (Sub.skip rfl (Sub.refl _))))))))) hk
        refine o_pure (p_move (v := .bool (((((Greedy.access h t).2.2).length : Int) == 0) && (((Greedy.access h t).1).floor == h.floor))) rfl) rfl rfl rfl ?_
        refine o_or (p := 97) 10 (decide (0 < (((Greedy.access h t).2.2).length : Int)) && (((Greedy.access h t).1).floor == last)) ?_ ?_ ?_
        · intro hb22 hk
          simp only [Bool.and_eq_false_iff, beq_eq_false_iff_ne, ne_eq] at hb22
          refine o_unguard 87 rfl rfl ?_
          refine o_pure (p_move (v := .slice a7 ((Greedy.access h t).2.2).length c8) rfl) rfl rfl rfl ?_
          refine o_unguard 87 rfl rfl ?_
          refine o_pure (p_len_slice (len := ((Greedy.access h t).2.2).length) rfl rfl Try.underlying22) rfl rfl rfl ?_
          refine o_unguard 87 rfl rfl ?_
          refine o_pure (p_gt (p := (((Greedy.access h t).2.2).length : Int)) (q := 0) rfl rfl) rfl rfl rfl ?_
          refine o_unguard 87 rfl rfl ?_
          refine o_pure (p_move (v := .bool (decide (0 < (((Greedy.access h t).2.2).length : Int)))) rfl) rfl rfl rfl ?_
          refine o_and (p := 96) 5 (((Greedy.access h t).1).floor == last) ?_ ?_ ?_
          · intro hb23 hk
            simp only [decide_eq_true_eq] at hb23
            refine o_unguard 91 rfl rfl ?_
            refine o_pure (p_fieldAddr (B := B11) (j := 0) (j' := 1) rfl fo39_1 rfl) rfl rfl rfl ?_
            refine o_unguard 91 rfl rfl ?_
            refine o_pure (p_load (i := 0) (v := .int .i64 (((Greedy.access h t).1).floor)) rfl rfl sh3 rfl) rfl rfl rfl ?_
            refine o_unguard 91 rfl rfl ?_
            refine o_pure (p_move (v := .int .i64 last) rfl) rfl rfl rfl ?_
            refine o_unguard 91 rfl rfl ?_
            refine o_pure (p_eq (p := ((Greedy.access h t).1).floor) (q := last) rfl rfl) rfl rfl rfl ?_
            refine o_unguard 87 rfl rfl ?_
            refine o_pure (p_pick_true (u := .bool (((Greedy.access h t).1).floor == last)) rfl rfl) rfl rfl rfl ?_
            exact o_sub (Sub.cons rfl (Sub.skip rfl (Sub.skip rfl (Sub.skip rfl (Sub.skip rfl (Sub.skip rfl (Sub.skip rfl (Sub.refl _)))))))) hk
          · intro hb23 hk
            refine o_guard_no rfl 91 rfl rfl rfl rfl rfl ?_
            refine o_guard_no rfl 91 rfl rfl rfl rfl rfl ?_
            refine o_guard_no rfl 91 rfl rfl rfl rfl rfl ?_
            refine o_guard_no rfl 91 rfl rfl rfl rfl rfl ?_
            refine o_unguard 87 rfl rfl ?_
            refine o_pure (p_pick_false (v := .bool false) rfl rfl) rfl rfl rfl ?_
            exact o_sub (Sub.cons rfl (Sub.skip rfl (Sub.skip rfl (Sub.skip rfl (Sub.skip rfl (Sub.skip rfl (Sub.skip rfl (Sub.refl _)))))))) hk
          refine o_pure (p_pick_false (v := .bool (decide (0 < (((Greedy.access h t).2.2).length : Int)) && (((Greedy.access h t).1).floor == last))) rfl rfl) rfl rfl rfl ?_
          exact o_sub (Sub.cons rfl (Sub.skip rfl (Sub.skip rfl (Sub.skip rfl (Sub.skip rfl (Sub.skip rfl (Sub.skip rfl (Sub.refl _)))))))) hk
        · intro hb22 hk
          refine o_guard_no rfl 87 rfl rfl rfl rfl rfl ?_
          refine o_guard_no rfl 87 rfl rfl rfl rfl rfl ?_
          refine o_guard_no rfl 87 rfl rfl rfl rfl rfl ?_
          refine o_guard_no rfl 87 rfl rfl rfl rfl rfl ?_
          refine o_guard_no rfl 91 rfl rfl rfl rfl rfl ?_
          refine o_guard_no rfl 91 rfl rfl rfl rfl rfl ?_
          refine o_guard_no rfl 91 rfl rfl rfl rfl rfl ?_
          refine o_guard_no rfl 91 rfl rfl rfl rfl rfl ?_
          refine o_guard_no rfl 87 rfl rfl rfl rfl rfl ?_
          refine o_pure (p_pick_true (u := .bool true) rfl rfl) rfl rfl rfl ?_
          exact o_sub (Sub.cons rfl (Sub.skip rfl (Sub.skip rfl (Sub.skip rfl (Sub.skip rfl (Sub.skip rfl (Sub.skip rfl (Sub.skip rfl (Sub.skip rfl (Sub.skip rfl (Sub.skip rfl (Sub.skip rfl (Sub.refl _))))))))))))) hk
        refine o_pure (p_assign (v := .bool ((((((Greedy.access h t).2.2).length : Int) == 0) && (((Greedy.access h t).1).floor == h.floor)) || (decide (0 < (((Greedy.access h t).2.2).length : Int)) && (((Greedy.access h t).1).floor == last)))) rfl) rfl rfl rfl ?_
        refine o_nil ?_
        refine q_then ?_
        refine c_ret ?_
        have hr0 : (((((((Greedy.access h t).2.2).length : Int) == 0) && (((Greedy.access h t).1).floor == h.floor)) || (decide (0 < (((Greedy.access h t).2.2).length : Int)) && (((Greedy.access h t).1).floor == last))) : Bool) = true := by
          first | (rw [hgn]; rfl) | exact Greedy.vict_bool hv hlast
        refine q_end0 (v := .bool ((((((Greedy.access h t).2.2).length : Int) == 0) && (((Greedy.access h t).1).floor == h.floor)) || (decide (0 < (((Greedy.access h t).2.2).length : Int)) && (((Greedy.access h t).1).floor == last)))) (rt1 rfl (r_tmp rfl)) (i := 4) rfl ?_
        exact (by have hcc := congrArg (fun (y0 : Bool) => (.bool y0 : Value)) hr0; exact hcc)
end Go.Proofs.Ythbfdhphnofacab
