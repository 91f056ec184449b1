/- The walks, printed by a program from the translation and a specification. -/
import Derived.Test.YthbfdhphnofacabGrF
import Derived.Test.YthbfdhphnofacabGrLaw3
import Derived.Test.YthbfdhphnofacabGrW4
import Derived.Test.YthbfdhphnofacabGrW5
namespace Go.Proofs.Ythbfdhphnofacab
open Go.Sx Go.RowKit
set_option maxHeartbeats 8000000 in
set_option maxRecDepth 100000 in
theorem greedySpec_ok (h : DGreedy) (ah_0 : Option Addr) (ch_0 : Nat) (t : DItem) : Fn0 Try.prog 5 [.agg #[.int .i64 h.room, .int .i64 h.floor, .slice ah_0 h.things.length ch_0], .agg #[.int .i64 t.key, .int .i64 t.size, .int .i64 t.cost, .int .i64 t.worth]] (fun w => Rd tItem w ah_0 ch_0 h.things) (.bool true) := by
  refine fn0 (nt := 141) (F0 := [(0, .agg #[.int .i64 h.room, .int .i64 h.floor, .slice ah_0 h.things.length ch_0]), (1, .agg #[.int .i64 t.key, .int .i64 t.size, .int .i64 t.cost, .int .i64 t.worth])]) Try.func5 rfl Try.ntmps5 rfl rfl (fun w0 hpre => ?_)
  have hh_0 := hpre
  have hlhh_0 := hh_0.2.1
  refine c_seq ?_
  refine c_region ?_
  refine o_box (v := .agg #[.int .i64 h.room, .int .i64 h.floor, .slice ah_0 h.things.length ch_0]) rfl rfl (fun B1 => ?_)
  refine o_box (v := .agg #[.int .i64 t.key, .int .i64 t.size, .int .i64 t.cost, .int .i64 t.worth]) rfl rfl (fun B2 => ?_)
  refine o_pure (p_assign (v := .bool false) rfl) rfl rfl rfl ?_
  refine o_nil ?_
  refine q_then ?_
  refine c_seq ?_
  refine c_region ?_
  refine o_pure (p_load_agg (i := 1) (vs := [.int .i64 h.room, .int .i64 h.floor, .slice ah_0 h.things.length ch_0]) rfl rfl sh39 rfl rfl) rfl rfl rfl ?_
  refine o_pure (p_load_agg (i := 0) (vs := [.int .i64 t.key, .int .i64 t.size, .int .i64 t.cost, .int .i64 t.worth]) rfl rfl sh41 rfl rfl) rfl rfl rfl ?_
  refine o_callM rfl (gaccess_ok h ah_0 ch_0 t) hf24 (fun w hw => (rd_base (i := 2) rfl hh_0) w hw) rfl (fun _ _ _ _ ha hA => ⟨SlR.agree ha hA.1, SlR.agree ha hA.2⟩) ?_
  rintro ⟨a5, c6, a7, c8⟩ S3
  refine o_know (fun w hw => (hw.at (i := 0) rfl).here.1.2.1) (fun hlr9 => ?_)
  refine o_know (fun w hw => (hw.at (i := 0) rfl).here.2.2.1) (fun hlr10 => ?_)
  refine o_pure (p_move (v := .tuple #[.agg #[.int .i64 (((Greedy.access h t).1).room), .int .i64 (((Greedy.access h t).1).floor), .slice a5 (((Greedy.access h t).1).things).length c6], .bool ((Greedy.access h t).2.1), .slice a7 ((Greedy.access h t).2.2).length c8, .int .i64 (Greedy.accessErr h t)]) rfl) rfl rfl rfl ?_
  refine o_pure (p_extract (vs := [.agg #[.int .i64 (((Greedy.access h t).1).room), .int .i64 (((Greedy.access h t).1).floor), .slice a5 (((Greedy.access h t).1).things).length c6], .bool ((Greedy.access h t).2.1), .slice a7 ((Greedy.access h t).2.2).length c8, .int .i64 (Greedy.accessErr h t)]) (v := .agg #[.int .i64 (((Greedy.access h t).1).room), .int .i64 (((Greedy.access h t).1).floor), .slice a5 (((Greedy.access h t).1).things).length c6]) rfl rfl) rfl rfl rfl ?_
  refine o_pure (p_extract (vs := [.agg #[.int .i64 (((Greedy.access h t).1).room), .int .i64 (((Greedy.access h t).1).floor), .slice a5 (((Greedy.access h t).1).things).length c6], .bool ((Greedy.access h t).2.1), .slice a7 ((Greedy.access h t).2.2).length c8, .int .i64 (Greedy.accessErr h t)]) (v := .bool ((Greedy.access h t).2.1)) rfl rfl) rfl rfl rfl ?_
  refine o_pure (p_extract (vs := [.agg #[.int .i64 (((Greedy.access h t).1).room), .int .i64 (((Greedy.access h t).1).floor), .slice a5 (((Greedy.access h t).1).things).length c6], .bool ((Greedy.access h t).2.1), .slice a7 ((Greedy.access h t).2.2).length c8, .int .i64 (Greedy.accessErr h t)]) (v := .slice a7 ((Greedy.access h t).2.2).length c8) rfl rfl) rfl rfl rfl ?_
  refine o_pure (p_extract (vs := [.agg #[.int .i64 (((Greedy.access h t).1).room), .int .i64 (((Greedy.access h t).1).floor), .slice a5 (((Greedy.access h t).1).things).length c6], .bool ((Greedy.access h t).2.1), .slice a7 ((Greedy.access h t).2.2).length c8, .int .i64 (Greedy.accessErr h t)]) (v := .int .i64 (Greedy.accessErr h t)) rfl rfl) rfl rfl rfl ?_
  refine o_alloc ze39 rfl (fun B11 => ?_)
  refine o_storeN (i := 0) (vs := [.int .i64 (((Greedy.access h t).1).room), .int .i64 (((Greedy.access h t).1).floor), .slice a5 (((Greedy.access h t).1).things).length c6]) (cs' := [.int .i64 (((Greedy.access h t).1).room), .int .i64 (((Greedy.access h t).1).floor), .slice a5 (((Greedy.access h t).1).things).length c6]) rfl rfl rfl sz39 rfl rfl rfl rfl ?_
  refine o_pure (p_assign (v := .bool ((Greedy.access h t).2.1)) rfl) rfl rfl rfl ?_
  refine o_pure (p_assign (v := .slice a7 ((Greedy.access h t).2.2).length c8) rfl) rfl rfl rfl ?_
  refine o_pure (p_assign (v := .int .i64 (Greedy.accessErr h t)) rfl) rfl rfl rfl ?_
  refine o_nil ?_
  refine q_then ?_
  refine c_seq ?_
  refine c_region ?_
  refine o_pure (p_load_agg (i := 3) (vs := [.int .i64 h.room, .int .i64 h.floor, .slice ah_0 h.things.length ch_0]) rfl rfl sh39 rfl rfl) rfl rfl rfl ?_
  refine o_call0 (v := .tuple #[.int .i64 ((Greedy.total h).1), .int .i64 ((Greedy.total h).2), .int .i64 (Greedy.check h)]) rfl (total_ok h ah_0 ch_0) hf25 (fun w hw => (rd_base (i := 4) rfl hh_0) w hw) rfl ?_
  refine o_pure (p_move (v := .tuple #[.int .i64 ((Greedy.total h).1), .int .i64 ((Greedy.total h).2), .int .i64 (Greedy.check h)]) rfl) rfl rfl rfl ?_
  refine o_pure (p_extract (vs := [.int .i64 ((Greedy.total h).1), .int .i64 ((Greedy.total h).2), .int .i64 (Greedy.check h)]) (v := .int .i64 ((Greedy.total h).1)) rfl rfl) rfl rfl rfl ?_
  refine o_pure (p_extract (vs := [.int .i64 ((Greedy.total h).1), .int .i64 ((Greedy.total h).2), .int .i64 (Greedy.check h)]) (v := .int .i64 ((Greedy.total h).2)) rfl rfl) rfl rfl rfl ?_
  refine o_pure (p_extract (vs := [.int .i64 ((Greedy.total h).1), .int .i64 ((Greedy.total h).2), .int .i64 (Greedy.check h)]) (v := .int .i64 (Greedy.check h)) rfl rfl) rfl rfl rfl ?_
  refine o_pure (p_assign (v := .int .i64 ((Greedy.total h).1)) rfl) rfl rfl rfl ?_
  refine o_pure (p_assign (v := .int .i64 ((Greedy.total h).2)) rfl) rfl rfl rfl ?_
  refine o_pure (p_assign (v := .int .i64 (Greedy.check h)) rfl) rfl rfl rfl ?_
  refine o_nil ?_
  refine q_then ?_
  refine c_seq ?_
  refine c_region ?_
  refine o_pure (p_load_agg (i := 3) (vs := [.int .i64 h.room, .int .i64 h.floor, .slice ah_0 h.things.length ch_0]) rfl rfl sh39 rfl rfl) rfl rfl rfl ?_
  refine o_call0 (v := .tuple #[.int .i64 (Greedy.victim h), .int .i64 (Greedy.victimErr h)]) rfl (victim_ok h ah_0 ch_0) hf26 (fun w hw => (rd_base (i := 4) rfl hh_0) w hw) rfl ?_
  refine o_pure (p_move (v := .tuple #[.int .i64 (Greedy.victim h), .int .i64 (Greedy.victimErr h)]) rfl) rfl rfl rfl ?_
  refine o_pure (p_extract (vs := [.int .i64 (Greedy.victim h), .int .i64 (Greedy.victimErr h)]) (v := .int .i64 (Greedy.victim h)) rfl rfl) rfl rfl rfl ?_
  refine o_pure (p_extract (vs := [.int .i64 (Greedy.victim h), .int .i64 (Greedy.victimErr h)]) (v := .int .i64 (Greedy.victimErr h)) rfl rfl) rfl rfl rfl ?_
  refine o_pure (p_assign (v := .int .i64 (Greedy.victim h)) rfl) rfl rfl rfl ?_
  refine o_pure (p_assign (v := .int .i64 (Greedy.victimErr h)) rfl) rfl rfl rfl ?_
  refine o_nil ?_
  refine q_then ?_
  refine c_seq ?_
  refine c_region ?_
  refine o_pure (p_load_agg (i := 3) (vs := [.int .i64 h.room, .int .i64 h.floor, .slice ah_0 h.things.length ch_0]) rfl rfl sh39 rfl rfl) rfl rfl rfl ?_
  refine o_call0 (v := .int .i64 (Greedy.check h)) rfl (hoardCheck_ok h ah_0 ch_0) hf27 (fun w hw => (rd_base (i := 4) rfl hh_0) w hw) rfl ?_
  refine o_pure (p_assign (v := .int .i64 (Greedy.check h)) rfl) rfl rfl rfl ?_
  refine o_nil ?_
  refine q_then ?_
  refine c_seq ?_
  refine c_region ?_
  refine o_pure (p_move (v := .int .i64 (Greedy.check h)) rfl) rfl rfl rfl ?_
  refine o_pure (p_move (v := .int .i64 (Greedy.check h)) rfl) rfl rfl rfl ?_
  refine o_pure (p_assign (v := .int .i64 (Greedy.check h)) rfl) rfl rfl rfl ?_
  refine o_pure (p_assign (v := .int .i64 (Greedy.check h)) rfl) rfl rfl rfl ?_
  refine o_nil ?_
  refine q_then ?_
  refine c_seq ?_
  refine c_region ?_
  refine o_alloc ze39 rfl (fun B12 => ?_)
  refine o_nil ?_
  refine q_then ?_
  refine c_seq ?_
  refine c_region ?_
  refine o_pure (p_assign (v := .bool false) rfl) rfl rfl rfl ?_
  refine o_pure (p_assign (v := .int .i64 0) rfl) rfl rfl rfl ?_
  refine o_pure (p_assign (v := .int .i64 0) rfl) rfl rfl rfl ?_
  refine o_pure (p_assign (v := .int .i64 0) rfl) rfl rfl rfl ?_
  refine o_nil ?_
  refine q_then ?_
  refine c_seq ?_
  refine c_region ?_
  refine o_pure (p_assign (v := .slice none 0 0) rfl) rfl rfl rfl ?_
  refine o_nil ?_
  refine q_then ?_
  refine c_seq ?_
  refine c_seq ?_
  refine c_region ?_
  refine o_pure (p_move (v := .int .i64 (Greedy.check h)) rfl) rfl rfl rfl ?_
  refine o_pure (p_eq (p := (Greedy.check h)) (q := 0) rfl rfl) rfl rfl rfl ?_
  refine o_nil ?_
  refine q_then ?_
  refine c_cond (b := ((Greedy.check h) == 0)) rfl (fun hc13 => ?_) (fun hc13 => ?_)
  · simp only [beq_iff_eq] at hc13
    have hok := Greedy.check_ok.1 hc13
    have hlen := hok.len
    refine c_seq ?_
    refine c_seq ?_
    refine c_region ?_
    refine o_pure (p_load_agg (i := 3) (vs := [.int .i64 t.key, .int .i64 t.size, .int .i64 t.cost, .int .i64 t.worth]) rfl rfl sh41 rfl rfl) rfl rfl rfl ?_
    refine o_call0 (v := .bool (Greedy.right t)) rfl (hoardThing_ok t) hf28 (fun _ _ => trivial) rfl ?_
    refine o_pure (p_not (b := (Greedy.right t)) rfl) rfl rfl rfl ?_
    refine o_nil ?_
    refine q_then ?_
    refine c_cond (b := (!(Greedy.right t))) rfl (fun hc14 => ?_) (fun hc14 => ?_)
    · simp only [Bool.not_eq_true'] at hc14
      refine c_region ?_
      refine o_pure (p_assign (v := .int .i64 3) rfl) rfl rfl rfl ?_
      refine o_nil ?_
      refine q_then ?_
      refine c_seq ?_
      refine c_region ?_
      refine o_pure (p_fieldAddr (B := B1) (j := 0) (j' := 2) rfl fo39_2 rfl) rfl rfl rfl ?_
      refine o_pure (p_load (i := 4) (v := .slice ah_0 h.things.length ch_0) rfl rfl sh37 rfl) rfl rfl rfl ?_
      refine o_call0 (v := .int .i64 (Greedy.sizes h.things)) rfl (hoardSizes_ok h.things ah_0 ch_0 (by first | assumption | exact hok.fine | exact hy1.fine | exact (hI.fits).fine | exact Greedy.Fine.of_done hdone (by omega))) hf30 (fun w hw => (rd_base (i := 5) rfl hh_0) w hw) rfl ?_
      refine o_pure (p_assign (v := .int .i64 (Greedy.sizes h.things)) rfl) rfl rfl rfl ?_
      refine o_nil ?_
      refine q_then ?_
      refine c_seq ?_
      refine c_seq ?_
      refine c_region ?_
      refine o_pure (p_assign (v := .int .i64 0) rfl) rfl rfl rfl ?_
      refine o_nil ?_
      refine q_then ?_
      refine c_block ?_
      refine c_loop (St := Int × Nat)
        (fun ⟨costs, i⟩ => [(2, .pointer (some ⟨B1, 0, none⟩)), (5, .pointer (some ⟨B11, 0, none⟩)), (6, .bool ((Greedy.access h t).2.1)), (7, .slice a7 ((Greedy.access h t).2.2).length c8), (8, .int .i64 (Greedy.accessErr h t)), (9, .int .i64 ((Greedy.total h).1)), (10, .int .i64 ((Greedy.total h).2)), (11, .int .i64 (Greedy.check h)), (12, .int .i64 (Greedy.victim h)), (13, .int .i64 (Greedy.victimErr h)), (14, .int .i64 (Greedy.check h)), (15, .int .i64 3), (16, .int .i64 (Greedy.check h)), (17, .pointer (some ⟨B12, 0, none⟩)), (18, .bool false), (19, .int .i64 (Greedy.sizes h.things)), (20, .int .i64 costs), (21, .int .i64 0), (22, .slice none 0 0), (23, .int .i64 (i : Int))])
        (fun ⟨costs, i⟩ => [box B12 [.int .i64 0, .int .i64 0, .slice none 0 0] 39, box B11 [.int .i64 (((Greedy.access h t).1).room), .int .i64 (((Greedy.access h t).1).floor), .slice a5 (((Greedy.access h t).1).things).length c6] 39, ⟨S3, fun w => SlR tItem S3 w a5 c6 (((Greedy.access h t).1).things) ∧ SlR tInt S3 w a7 c8 ((Greedy.access h t).2.2)⟩, box B2 [.int .i64 t.key, .int .i64 t.size, .int .i64 t.cost, .int .i64 t.worth] 41, box B1 [.int .i64 h.room, .int .i64 h.floor, .slice ah_0 h.things.length ch_0] 39, base w0])
        (fun ⟨costs, i⟩ => i ≤ h.things.length ∧ costs = Greedy.costs (h.things.take i))
        (fun ⟨costs, i⟩ => h.things.length - i)
        (0, 0) ?_ (Sub.cons rfl (Sub.cons rfl (Sub.cons rfl (Sub.cons rfl (Sub.cons rfl (Sub.cons rfl (Sub.cons rfl (Sub.cons rfl (Sub.cons rfl (Sub.cons rfl (Sub.cons rfl (Sub.cons rfl (Sub.cons rfl (Sub.cons rfl (Sub.cons rfl (Sub.cons rfl (Sub.cons rfl (Sub.cons rfl (Sub.cons rfl (Sub.cons rfl (Sub.nil _))))))))))))))))))))) (fun _ hw => hw) ?_
      · exact ⟨Nat.zero_le _, rfl⟩
      rintro ⟨costs, i⟩ hI K hK15
      have hcb := Greedy.costs_bd hok.fine i
      have hci := hI.2
      show SC _ _ Try.prog 141 w0 _ _ [(2, .pointer (some ⟨B1, 0, none⟩)), (5, .pointer (some ⟨B11, 0, none⟩)), (6, .bool ((Greedy.access h t).2.1)), (7, .slice a7 ((Greedy.access h t).2.2).length c8), (8, .int .i64 (Greedy.accessErr h t)), (9, .int .i64 ((Greedy.total h).1)), (10, .int .i64 ((Greedy.total h).2)), (11, .int .i64 (Greedy.check h)), (12, .int .i64 (Greedy.victim h)), (13, .int .i64 (Greedy.victimErr h)), (14, .int .i64 (Greedy.check h)), (15, .int .i64 3), (16, .int .i64 (Greedy.check h)), (17, .pointer (some ⟨B12, 0, none⟩)), (18, .bool false), (19, .int .i64 (Greedy.sizes h.things)), (20, .int .i64 costs), (21, .int .i64 0), (22, .slice none 0 0), (23, .int .i64 (i : Int))] [box B12 [.int .i64 0, .int .i64 0, .slice none 0 0] 39, box B11 [.int .i64 (((Greedy.access h t).1).room), .int .i64 (((Greedy.access h t).1).floor), .slice a5 (((Greedy.access h t).1).things).length c6] 39, ⟨S3, fun w => SlR tItem S3 w a5 c6 (((Greedy.access h t).1).things) ∧ SlR tInt S3 w a7 c8 ((Greedy.access h t).2.2)⟩, box B2 [.int .i64 t.key, .int .i64 t.size, .int .i64 t.cost, .int .i64 t.worth] 41, box B1 [.int .i64 h.room, .int .i64 h.floor, .slice ah_0 h.things.length ch_0] 39, base w0]
      refine c_seq ?_
      refine c_seq ?_
      refine c_region ?_
      refine o_pure (p_move (v := .int .i64 (i : Int)) rfl) rfl rfl rfl ?_
      refine o_pure (p_fieldAddr (B := B1) (j := 0) (j' := 2) rfl fo39_2 rfl) rfl rfl rfl ?_
      refine o_pure (p_load (i := 4) (v := .slice ah_0 h.things.length ch_0) rfl rfl sh37 rfl) rfl rfl rfl ?_
      refine o_pure (p_len_slice (len := h.things.length) rfl rfl Try.underlying37) rfl rfl rfl ?_
      refine o_pure (p_lt (p := (i : Int)) (q := (h.things.length : Int)) rfl rfl) rfl rfl rfl ?_
      refine o_nil ?_
      refine q_then ?_
      refine c_cond (b := decide ((i : Int) < (h.things.length : Int))) rfl (fun hc16 => ?_) (fun hc16 => ?_)
      · simp only [decide_eq_true_eq] at hc16
        have hit := Greedy.SInv.it (k := i) hok.fine (by omega)
        refine c_skip ?_
        refine q_then ?_
        refine c_seq ?_
        refine c_block ?_
        refine c_region ?_
        refine o_pure (p_move (v := .int .i64 costs) rfl) rfl rfl rfl ?_
        refine o_pure (p_fieldAddr (B := B1) (j := 0) (j' := 2) rfl fo39_2 rfl) rfl rfl rfl ?_
        refine o_pure (p_load (i := 4) (v := .slice ah_0 h.things.length ch_0) rfl rfl sh37 rfl) rfl rfl rfl ?_
        refine o_pure (p_move (v := .int .i64 (i : Int)) rfl) rfl rfl rfl ?_
        refine o_pure (p_indexAddr (L := h.things) (T := tItem) (i := (i : Int)) rfl rfl (rd_base (i := 5) rfl hh_0) Try.underlying37 sz41 (by omega) (by omega)) rfl rfl rfl ?_
        refine o_pure (p_fieldAddrE rfl fo41_2) rfl rfl rfl ?_
        refine o_pure (p_loadF (i := i) (j := 2) (T := tItem) (L := h.things) (v := .int .i64 ((h.things[i]).cost)) rfl (rd_base (i := 5) rfl hh_0) (by first | assumption | omega) sh3 rfl) rfl rfl rfl ?_
        refine o_pure (p_addb (p := costs) (q := (h.things[i]).cost) rfl rfl (by omega)) rfl rfl rfl ?_
        refine o_pure (p_assign (v := .int .i64 (costs + (h.things[i]).cost)) rfl) rfl rfl rfl ?_
        refine o_nil ?_
        refine q_block_normal (q_then ?_)
        refine c_region ?_
        refine o_pure (p_move (v := .int .i64 (i : Int)) rfl) rfl rfl rfl ?_
        refine o_pure (p_addb (p := (i : Int)) (q := 1) rfl rfl (by omega)) rfl rfl rfl ?_
        refine o_pure (p_assign (v := .int .i64 ((i : Int) + 1)) rfl) rfl rfl rfl ?_
        refine o_nil ?_
        refine q_round hK15 ((costs + (h.things[i]).cost), i + 1) ?_ ?_ ?_ ?_
        · clear hK15
          exact ⟨by omega, by rw [Greedy.costs_snoc (by omega), ← hI.2]⟩
        · (try dsimp only); omega
        · exact Sub.cons rfl (Sub.cons rfl (Sub.cons rfl (Sub.cons rfl (Sub.cons rfl (Sub.cons rfl (Sub.cons rfl (Sub.cons rfl (Sub.cons rfl (Sub.cons rfl (Sub.cons rfl (Sub.cons rfl (Sub.cons rfl (Sub.cons rfl (Sub.cons rfl (Sub.cons rfl (Sub.cons rfl (Sub.cons rfl (Sub.cons rfl (Sub.cons rfl (Sub.nil _))))))))))))))))))))
        · exact fun _ hw => HeapIs.pick hw [0, 1, 2, 3, 4, 5] (by decide) rfl
      · simp only [decide_eq_false_iff_not, Int.not_lt] at hc16
        have hcs : costs = Greedy.costs h.things := by rw [hI.2, Greedy.costs_all (by omega)]
        refine c_exit ?_
        refine q_then_exit (q_then_exit (q_block_exit (q_then ?_)))
        refine c_seq ?_
        refine c_region ?_
        refine o_pure (p_fieldAddr (B := B1) (j := 0) (j' := 2) rfl fo39_2 rfl) rfl rfl rfl ?_
        refine o_pure (p_load (i := 4) (v := .slice ah_0 h.things.length ch_0) rfl rfl sh37 rfl) rfl rfl rfl ?_
        refine o_pure (p_len_slice (len := h.things.length) rfl rfl Try.underlying37) rfl rfl rfl ?_
        refine o_pure (p_eq (p := (h.things.length : Int)) (q := 0) rfl rfl) rfl rfl rfl ?_
        refine o_nil ?_
        refine q_then ?_
        refine c_cond (b := ((h.things.length : Int) == 0)) rfl (fun hc17 => ?_) (fun hc17 => ?_)
        · simp only [beq_iff_eq] at hc17
          refine c_region ?_
          refine o_pure (p_assign (v := .int .i64 5) rfl) rfl rfl rfl ?_
          refine o_nil ?_
          refine q_then ?_
          refine c_seq ?_
          refine c_region ?_
          refine o_call0 (v := .bool true) rfl (hoardBegun_ok ) hf32 (fun _ _ => trivial) rfl ?_
          refine o_pure (p_move (v := .bool true) rfl) rfl rfl rfl ?_
          refine o_unguard 90 rfl rfl ?_
          refine o_pure (p_load_agg (i := 4) (vs := [.int .i64 h.room, .int .i64 h.floor, .slice ah_0 h.things.length ch_0]) rfl rfl sh39 rfl rfl) rfl rfl rfl ?_
          refine o_unguard 90 rfl rfl ?_
          refine o_call0 (v := .int .i64 (Greedy.check h)) rfl (gcheck_ok h ah_0 ch_0) hf33 (fun w hw => (rd_base (i := 5) rfl hh_0) w hw) rfl ?_
          refine o_unguard 90 rfl rfl ?_
          refine o_pure (p_move (v := .int .i64 (Greedy.check h)) rfl) rfl rfl rfl ?_
          refine o_unguard 90 rfl rfl ?_
          refine o_pure (p_eq (p := (Greedy.check h)) (q := (Greedy.check h)) rfl rfl) rfl rfl rfl ?_
          refine o_pure (p_pick_true (u := .bool ((Greedy.check h) == (Greedy.check h))) rfl rfl) rfl rfl rfl ?_
          refine o_pure (p_move (v := .bool ((Greedy.check h) == (Greedy.check h))) rfl) rfl rfl rfl ?_
          refine o_and (p := 100) 4 (decide (((Greedy.access h t).1) = (⟨0, 0, []⟩ : DGreedy))) ?_ ?_ ?_
          · intro hb18 hk
            simp only [beq_iff_eq] at hb18
            refine o_unguard 96 rfl rfl ?_
            refine o_pure (p_load_agg (i := 1) (vs := [.int .i64 (((Greedy.access h t).1).room), .int .i64 (((Greedy.access h t).1).floor), .slice a5 (((Greedy.access h t).1).things).length c6]) rfl rfl sh39 rfl rfl) rfl rfl rfl ?_
            refine o_unguard 96 rfl rfl ?_
            refine o_pure (p_load_agg (i := 0) (vs := [.int .i64 0, .int .i64 0, .slice none 0 0]) rfl rfl sh39 rfl rfl) rfl rfl rfl ?_
            refine o_unguard 96 rfl rfl ?_
            refine o_call0 (v := .bool (decide (((Greedy.access h t).1) = (⟨0, 0, []⟩ : DGreedy)))) rfl (sameHoard_ok ((Greedy.access h t).1) a5 c6 (⟨0, 0, []⟩ : DGreedy) none 0) hf34 (fun w hw => ⟨(rd_ent (i := 2) rfl (fun w h => h.1)) w hw, rd_nil w hw⟩) rfl ?_
            refine o_pure (p_pick_true (u := .bool (decide (((Greedy.access h t).1) = (⟨0, 0, []⟩ : DGreedy)))) rfl rfl) rfl rfl rfl ?_
            exact o_sub (Sub.cons rfl (Sub.skip rfl (Sub.skip rfl (Sub.skip rfl (Sub.skip rfl (Sub.skip rfl (Sub.refl _))))))) hk
          · intro hb18 hk
            refine o_guard_no rfl 96 rfl rfl rfl rfl rfl ?_
            refine o_guard_no rfl 96 rfl rfl rfl rfl rfl ?_
            refine o_guard_no rfl 96 rfl rfl rfl rfl rfl ?_
            refine o_pure (p_pick_false (v := .bool false) rfl rfl) rfl rfl rfl ?_
            exact o_sub (Sub.cons rfl (Sub.skip rfl (Sub.skip rfl (Sub.skip rfl (Sub.skip rfl (Sub.skip rfl (Sub.refl _))))))) hk
          refine o_pure (p_move (v := .bool (((Greedy.check h) == (Greedy.check h)) && (decide (((Greedy.access h t).1) = (⟨0, 0, []⟩ : DGreedy))))) rfl) rfl rfl rfl ?_
          refine o_and (p := 105) 4 (((Greedy.access h t).2.1) == false) ?_ ?_ ?_
          · intro hb19 hk
            simp only [Bool.and_eq_true, beq_iff_eq, decide_eq_true_eq] at hb19
            refine o_unguard 101 rfl rfl ?_
            refine o_pure (p_move (v := .bool ((Greedy.access h t).2.1)) rfl) rfl rfl rfl ?_
            refine o_unguard 101 rfl rfl ?_
            refine o_pure (p_move (v := .bool false) rfl) rfl rfl rfl ?_
            refine o_unguard 101 rfl rfl ?_
            refine o_pure (p_eqBool (b := ((Greedy.access h t).2.1)) (c := false) rfl rfl Try.underlying4) rfl rfl rfl ?_
            refine o_pure (p_pick_true (u := .bool (((Greedy.access h t).2.1) == false)) rfl rfl) rfl rfl rfl ?_
            exact o_sub (Sub.cons rfl (Sub.skip rfl (Sub.skip rfl (Sub.skip rfl (Sub.skip rfl (Sub.skip rfl (Sub.refl _))))))) hk
          · intro hb19 hk
            refine o_guard_no rfl 101 rfl rfl rfl rfl rfl ?_
            refine o_guard_no rfl 101 rfl rfl rfl rfl rfl ?_
            refine o_guard_no rfl 101 rfl rfl rfl rfl rfl ?_
            refine o_pure (p_pick_false (v := .bool false) rfl rfl) rfl rfl rfl ?_
            exact o_sub (Sub.cons rfl (Sub.skip rfl (Sub.skip rfl (Sub.skip rfl (Sub.skip rfl (Sub.skip rfl (Sub.refl _))))))) hk
          refine o_pure (p_move (v := .bool ((((Greedy.check h) == (Greedy.check h)) && (decide (((Greedy.access h t).1) = (⟨0, 0, []⟩ : DGreedy)))) && (((Greedy.access h t).2.1) == false))) rfl) rfl rfl rfl ?_
          refine o_and (p := 110) 4 (Ref.sameInts ((Greedy.access h t).2.2) []) ?_ ?_ ?_
          · intro hb20 hk
            simp only [Bool.and_eq_true, beq_iff_eq, decide_eq_true_eq] at hb20
            refine o_unguard 106 rfl rfl ?_
            refine o_pure (p_move (v := .slice a7 ((Greedy.access h t).2.2).length c8) rfl) rfl rfl rfl ?_
            refine o_unguard 106 rfl rfl ?_
            refine o_pure (p_move (v := .slice none 0 0) rfl) rfl rfl rfl ?_
            refine o_unguard 106 rfl rfl ?_
            refine o_call0 (v := .bool (Ref.sameInts ((Greedy.access h t).2.2) [])) rfl (sameInts_ok ((Greedy.access h t).2.2) a7 c8 [] none 0) hf22 (fun w hw => ⟨(rd_ent (i := 2) rfl (fun w h => h.2)) w hw, rd_nil w hw⟩) rfl ?_
            refine o_pure (p_pick_true (u := .bool (Ref.sameInts ((Greedy.access h t).2.2) [])) rfl rfl) rfl rfl rfl ?_
            exact o_sub (Sub.cons rfl (Sub.skip rfl (Sub.skip rfl (Sub.skip rfl (Sub.skip rfl (Sub.skip rfl (Sub.refl _))))))) hk
          · intro hb20 hk
            refine o_guard_no rfl 106 rfl rfl rfl rfl rfl ?_
            refine o_guard_no rfl 106 rfl rfl rfl rfl rfl ?_
            refine o_guard_no rfl 106 rfl rfl rfl rfl rfl ?_
            refine o_pure (p_pick_false (v := .bool false) rfl rfl) rfl rfl rfl ?_
            exact o_sub (Sub.cons rfl (Sub.skip rfl (Sub.skip rfl (Sub.skip rfl (Sub.skip rfl (Sub.skip rfl (Sub.refl _))))))) hk
          refine o_pure (p_move (v := .bool (((((Greedy.check h) == (Greedy.check h)) && (decide (((Greedy.access h t).1) = (⟨0, 0, []⟩ : DGreedy)))) && (((Greedy.access h t).2.1) == false)) && (Ref.sameInts ((Greedy.access h t).2.2) []))) rfl) rfl rfl rfl ?_
          refine o_and (p := 115) 4 ((Greedy.accessErr h t) == 3) ?_ ?_ ?_
          · intro hb21 hk
            simp only [Bool.and_eq_true, beq_iff_eq, decide_eq_true_eq] at hb21
            refine o_unguard 111 rfl rfl ?_
            refine o_pure (p_move (v := .int .i64 (Greedy.accessErr h t)) rfl) rfl rfl rfl ?_
            refine o_unguard 111 rfl rfl ?_
            refine o_pure (p_move (v := .int .i64 3) rfl) rfl rfl rfl ?_
            refine o_unguard 111 rfl rfl ?_
            refine o_pure (p_eq (p := (Greedy.accessErr h t)) (q := 3) rfl rfl) rfl rfl rfl ?_
            refine o_pure (p_pick_true (u := .bool ((Greedy.accessErr h t) == 3)) rfl rfl) rfl rfl rfl ?_
            exact o_sub (Sub.cons rfl (Sub.skip rfl (Sub.skip rfl (Sub.skip rfl (Sub.skip rfl (Sub.skip rfl (Sub.refl _))))))) hk
          · intro hb21 hk
            refine o_guard_no rfl 111 rfl rfl rfl rfl rfl ?_
            refine o_guard_no rfl 111 rfl rfl rfl rfl rfl ?_
            refine o_guard_no rfl 111 rfl rfl rfl rfl rfl ?_
            refine o_pure (p_pick_false (v := .bool false) rfl rfl) rfl rfl rfl ?_
            exact o_sub (Sub.cons rfl (Sub.skip rfl (Sub.skip rfl (Sub.skip rfl (Sub.skip rfl (Sub.skip rfl (Sub.refl _))))))) hk
          refine o_pure (p_move (v := .bool ((((((Greedy.check h) == (Greedy.check h)) && (decide (((Greedy.access h t).1) = (⟨0, 0, []⟩ : DGreedy)))) && (((Greedy.access h t).2.1) == false)) && (Ref.sameInts ((Greedy.access h t).2.2) [])) && ((Greedy.accessErr h t) == 3))) rfl) rfl rfl rfl ?_
          refine o_and (p := 120) 4 (((Greedy.total h).1) == (Greedy.sizes h.things)) ?_ ?_ ?_
          · intro hb22 hk
            simp only [Bool.and_eq_true, beq_iff_eq, decide_eq_true_eq] at hb22
            refine o_unguard 116 rfl rfl ?_
            refine o_pure (p_move (v := .int .i64 ((Greedy.total h).1)) rfl) rfl rfl rfl ?_
            refine o_unguard 116 rfl rfl ?_
            refine o_pure (p_move (v := .int .i64 (Greedy.sizes h.things)) rfl) rfl rfl rfl ?_
            refine o_unguard 116 rfl rfl ?_
            refine o_pure (p_eq (p := ((Greedy.total h).1)) (q := (Greedy.sizes h.things)) rfl rfl) rfl rfl rfl ?_
            refine o_pure (p_pick_true (u := .bool (((Greedy.total h).1) == (Greedy.sizes h.things))) rfl rfl) rfl rfl rfl ?_
            exact o_sub (Sub.cons rfl (Sub.skip rfl (Sub.skip rfl (Sub.skip rfl (Sub.skip rfl (Sub.skip rfl (Sub.refl _))))))) hk
          · intro hb22 hk
            refine o_guard_no rfl 116 rfl rfl rfl rfl rfl ?_
            refine o_guard_no rfl 116 rfl rfl rfl rfl rfl ?_
            refine o_guard_no rfl 116 rfl rfl rfl rfl rfl ?_
            refine o_pure (p_pick_false (v := .bool false) rfl rfl) rfl rfl rfl ?_
            exact o_sub (Sub.cons rfl (Sub.skip rfl (Sub.skip rfl (Sub.skip rfl (Sub.skip rfl (Sub.skip rfl (Sub.refl _))))))) hk
          refine o_pure (p_move (v := .bool (((((((Greedy.check h) == (Greedy.check h)) && (decide (((Greedy.access h t).1) = (⟨0, 0, []⟩ : DGreedy)))) && (((Greedy.access h t).2.1) == false)) && (Ref.sameInts ((Greedy.access h t).2.2) [])) && ((Greedy.accessErr h t) == 3)) && (((Greedy.total h).1) == (Greedy.sizes h.things)))) rfl) rfl rfl rfl ?_
          refine o_and (p := 125) 4 (((Greedy.total h).2) == costs) ?_ ?_ ?_
          · intro hb23 hk
            simp only [Bool.and_eq_true, beq_iff_eq, decide_eq_true_eq] at hb23
            refine o_unguard 121 rfl rfl ?_
            refine o_pure (p_move (v := .int .i64 ((Greedy.total h).2)) rfl) rfl rfl rfl ?_
            refine o_unguard 121 rfl rfl ?_
            refine o_pure (p_move (v := .int .i64 costs) rfl) rfl rfl rfl ?_
            refine o_unguard 121 rfl rfl ?_
            refine o_pure (p_eq (p := ((Greedy.total h).2)) (q := costs) rfl rfl) rfl rfl rfl ?_
            refine o_pure (p_pick_true (u := .bool (((Greedy.total h).2) == costs)) rfl rfl) rfl rfl rfl ?_
            exact o_sub (Sub.cons rfl (Sub.skip rfl (Sub.skip rfl (Sub.skip rfl (Sub.skip rfl (Sub.skip rfl (Sub.refl _))))))) hk
          · intro hb23 hk
            refine o_guard_no rfl 121 rfl rfl rfl rfl rfl ?_
            refine o_guard_no rfl 121 rfl rfl rfl rfl rfl ?_
            refine o_guard_no rfl 121 rfl rfl rfl rfl rfl ?_
            refine o_pure (p_pick_false (v := .bool false) rfl rfl) rfl rfl rfl ?_
            exact o_sub (Sub.cons rfl (Sub.skip rfl (Sub.skip rfl (Sub.skip rfl (Sub.skip rfl (Sub.skip rfl (Sub.refl _))))))) hk
          refine o_pure (p_move (v := .bool ((((((((Greedy.check h) == (Greedy.check h)) && (decide (((Greedy.access h t).1) = (⟨0, 0, []⟩ : DGreedy)))) && (((Greedy.access h t).2.1) == false)) && (Ref.sameInts ((Greedy.access h t).2.2) [])) && ((Greedy.accessErr h t) == 3)) && (((Greedy.total h).1) == (Greedy.sizes h.things))) && (((Greedy.total h).2) == costs))) rfl) rfl rfl rfl ?_
          refine o_and (p := 130) 4 ((Greedy.check h) == (Greedy.check h)) ?_ ?_ ?_
          · intro hb24 hk
            simp only [Bool.and_eq_true, beq_iff_eq, decide_eq_true_eq] at hb24
            refine o_unguard 126 rfl rfl ?_
            refine o_pure (p_move (v := .int .i64 (Greedy.check h)) rfl) rfl rfl rfl ?_
            refine o_unguard 126 rfl rfl ?_
            refine o_pure (p_move (v := .int .i64 (Greedy.check h)) rfl) rfl rfl rfl ?_
            refine o_unguard 126 rfl rfl ?_
            refine o_pure (p_eq (p := (Greedy.check h)) (q := (Greedy.check h)) rfl rfl) rfl rfl rfl ?_
            refine o_pure (p_pick_true (u := .bool ((Greedy.check h) == (Greedy.check h))) rfl rfl) rfl rfl rfl ?_
            exact o_sub (Sub.cons rfl (Sub.skip rfl (Sub.skip rfl (Sub.skip rfl (Sub.skip rfl (Sub.skip rfl (Sub.refl _))))))) hk
          · intro hb24 hk
            refine o_guard_no rfl 126 rfl rfl rfl rfl rfl ?_
            refine o_guard_no rfl 126 rfl rfl rfl rfl rfl ?_
            refine o_guard_no rfl 126 rfl rfl rfl rfl rfl ?_
            refine o_pure (p_pick_false (v := .bool false) rfl rfl) rfl rfl rfl ?_
            exact o_sub (Sub.cons rfl (Sub.skip rfl (Sub.skip rfl (Sub.skip rfl (Sub.skip rfl (Sub.skip rfl (Sub.refl _))))))) hk
          refine o_pure (p_move (v := .bool (((((((((Greedy.check h) == (Greedy.check h)) && (decide (((Greedy.access h t).1) = (⟨0, 0, []⟩ : DGreedy)))) && (((Greedy.access h t).2.1) == false)) && (Ref.sameInts ((Greedy.access h t).2.2) [])) && ((Greedy.accessErr h t) == 3)) && (((Greedy.total h).1) == (Greedy.sizes h.things))) && (((Greedy.total h).2) == costs)) && ((Greedy.check h) == (Greedy.check h)))) rfl) rfl rfl rfl ?_
          refine o_and (p := 135) 4 ((Greedy.victim h) == 0) ?_ ?_ ?_
          · intro hb25 hk
            simp only [Bool.and_eq_true, beq_iff_eq, decide_eq_true_eq] at hb25
            refine o_unguard 131 rfl rfl ?_
            refine o_pure (p_move (v := .int .i64 (Greedy.victim h)) rfl) rfl rfl rfl ?_
            refine o_unguard 131 rfl rfl ?_
            refine o_pure (p_move (v := .int .i64 0) rfl) rfl rfl rfl ?_
            refine o_unguard 131 rfl rfl ?_
            refine o_pure (p_eq (p := (Greedy.victim h)) (q := 0) rfl rfl) rfl rfl rfl ?_
            refine o_pure (p_pick_true (u := .bool ((Greedy.victim h) == 0)) rfl rfl) rfl rfl rfl ?_
            exact o_sub (Sub.cons rfl (Sub.skip rfl (Sub.skip rfl (Sub.skip rfl (Sub.skip rfl (Sub.skip rfl (Sub.refl _))))))) hk
          · intro hb25 hk
            refine o_guard_no rfl 131 rfl rfl rfl rfl rfl ?_
            refine o_guard_no rfl 131 rfl rfl rfl rfl rfl ?_
            refine o_guard_no rfl 131 rfl rfl rfl rfl rfl ?_
            refine o_pure (p_pick_false (v := .bool false) rfl rfl) rfl rfl rfl ?_
            exact o_sub (Sub.cons rfl (Sub.skip rfl (Sub.skip rfl (Sub.skip rfl (Sub.skip rfl (Sub.skip rfl (Sub.refl _))))))) hk
          refine o_pure (p_move (v := .bool ((((((((((Greedy.check h) == (Greedy.check h)) && (decide (((Greedy.access h t).1) = (⟨0, 0, []⟩ : DGreedy)))) && (((Greedy.access h t).2.1) == false)) && (Ref.sameInts ((Greedy.access h t).2.2) [])) && ((Greedy.accessErr h t) == 3)) && (((Greedy.total h).1) == (Greedy.sizes h.things))) && (((Greedy.total h).2) == costs)) && ((Greedy.check h) == (Greedy.check h))) && ((Greedy.victim h) == 0))) rfl) rfl rfl rfl ?_
          refine o_and (p := 140) 4 ((Greedy.victimErr h) == 5) ?_ ?_ ?_
          · intro hb26 hk
            simp only [Bool.and_eq_true, beq_iff_eq, decide_eq_true_eq] at hb26
            refine o_unguard 136 rfl rfl ?_
            refine o_pure (p_move (v := .int .i64 (Greedy.victimErr h)) rfl) rfl rfl rfl ?_
            refine o_unguard 136 rfl rfl ?_
            refine o_pure (p_move (v := .int .i64 5) rfl) rfl rfl rfl ?_
            refine o_unguard 136 rfl rfl ?_
            refine o_pure (p_eq (p := (Greedy.victimErr h)) (q := 5) rfl rfl) rfl rfl rfl ?_
            refine o_pure (p_pick_true (u := .bool ((Greedy.victimErr h) == 5)) rfl rfl) rfl rfl rfl ?_
            exact o_sub (Sub.cons rfl (Sub.skip rfl (Sub.skip rfl (Sub.skip rfl (Sub.skip rfl (Sub.skip rfl (Sub.refl _))))))) hk
          · intro hb26 hk
            refine o_guard_no rfl 136 rfl rfl rfl rfl rfl ?_
            refine o_guard_no rfl 136 rfl rfl rfl rfl rfl ?_
            refine o_guard_no rfl 136 rfl rfl rfl rfl rfl ?_
            refine o_pure (p_pick_false (v := .bool false) rfl rfl) rfl rfl rfl ?_
            exact o_sub (Sub.cons rfl (Sub.skip rfl (Sub.skip rfl (Sub.skip rfl (Sub.skip rfl (Sub.skip rfl (Sub.refl _))))))) hk
          refine o_pure (p_assign (v := .bool (((((((((((Greedy.check h) == (Greedy.check h)) && (decide (((Greedy.access h t).1) = (⟨0, 0, []⟩ : DGreedy)))) && (((Greedy.access h t).2.1) == false)) && (Ref.sameInts ((Greedy.access h t).2.2) [])) && ((Greedy.accessErr h t) == 3)) && (((Greedy.total h).1) == (Greedy.sizes h.things))) && (((Greedy.total h).2) == costs)) && ((Greedy.check h) == (Greedy.check h))) && ((Greedy.victim h) == 0)) && ((Greedy.victimErr h) == 5))) rfl) rfl rfl rfl ?_
          refine o_nil ?_
          refine q_then ?_
          refine c_ret ?_
          have hr0 : ((((((((((((Greedy.check h) == (Greedy.check h)) && (decide (((Greedy.access h t).1) = (⟨0, 0, []⟩ : DGreedy)))) && (((Greedy.access h t).2.1) == false)) && (Ref.sameInts ((Greedy.access h t).2.2) [])) && ((Greedy.accessErr h t) == 3)) && (((Greedy.total h).1) == (Greedy.sizes h.things))) && (((Greedy.total h).2) == costs)) && ((Greedy.check h) == (Greedy.check h))) && ((Greedy.victim h) == 0)) && ((Greedy.victimErr h) == 5)) : Bool) = true := by
            first
              | (have ha := Greedy.acc1 (h := h) (t := t) (by assumption); have ht := Greedy.tot_bad (h := h) (by assumption); have hv := Greedy.vic_bad (h := h) (by assumption); simp [ha.1, ha.2, hv.1, hv.2, ht, Ref.sameInts, Greedy.zero, *]; done)
              | (have ha := Greedy.acc2 (h := h) (t := t) ⟨by assumption, by assumption⟩; have ht := Greedy.tot_ok (h := h) (by assumption); have hv := Greedy.vic_none (h := h) ⟨by assumption, by assumption⟩; simp [ha.1, ha.2, hv.1, hv.2, ht, Ref.sameInts, Greedy.zero, hcs]; done)
              | (have ha := Greedy.acc2 (h := h) (t := t) ⟨by assumption, by assumption⟩; have ht := Greedy.tot_ok (h := h) (by assumption); have hv := Greedy.vic_ok (h := h) (by assumption) hll; have hce : Greedy.check h = 0 := (by assumption); simp [ha.1, ha.2, hv.1, hv.2, ht, Ref.sameInts, Greedy.zero, hcs, hce]; done)
              | (have ha := Greedy.acc3 (h := h) (t := t) (by assumption) hrt; have ht := Greedy.tot_ok (h := h) (by assumption); have hv := Greedy.vic_none (h := h) ⟨by assumption, by assumption⟩; have hce : Greedy.check h = 0 := (by assumption); simp [ha.1, ha.2, hv.1, hv.2, ht, Ref.sameInts, Greedy.zero, hcs, hce]; done)
              | (have ha := Greedy.acc3 (h := h) (t := t) (by assumption) hrt; have ht := Greedy.tot_ok (h := h) (by assumption); have hv := Greedy.vic_ok (h := h) (by assumption) hll; have hce : Greedy.check h = 0 := (by assumption); simp [ha.1, ha.2, hv.1, hv.2, ht, Ref.sameInts, Greedy.zero, hcs, hce]; done)
          refine q_end0 (v := .bool (((((((((((Greedy.check h) == (Greedy.check h)) && (decide (((Greedy.access h t).1) = (⟨0, 0, []⟩ : DGreedy)))) && (((Greedy.access h t).2.1) == false)) && (Ref.sameInts ((Greedy.access h t).2.2) [])) && ((Greedy.accessErr h t) == 3)) && (((Greedy.total h).1) == (Greedy.sizes h.things))) && (((Greedy.total h).2) == costs)) && ((Greedy.check h) == (Greedy.check h))) && ((Greedy.victim h) == 0)) && ((Greedy.victimErr h) == 5))) (rt1 rfl (r_tmp rfl)) (i := 5) rfl ?_
          exact (by have hcc := congrArg (fun (y0 : Bool) => (.bool y0 : Value)) hr0; exact hcc)
        · simp only [beq_eq_false_iff_ne, ne_eq] at hc17
          have hll := Greedy.least_lt (l := h.things) (by omega)
          refine c_draw hmix (by kernel_rfl) ?_
          refine w_pure (p_fieldAddr (B := B1) (j := 0) (j' := 2) rfl fo39_2 rfl) rfl rfl rfl ?_
          refine w_pure (p_load (i := 4) (v := .slice ah_0 h.things.length ch_0) rfl rfl sh37 rfl) rfl rfl rfl ?_
          refine w_pure (p_fieldAddr (B := B1) (j := 0) (j' := 2) rfl fo39_2 rfl) rfl rfl rfl ?_
          refine w_pure (p_load (i := 4) (v := .slice ah_0 h.things.length ch_0) rfl rfl sh37 rfl) rfl rfl rfl ?_
          refine w_call0 (v := .int .i64 (Greedy.least h.things : Int)) rfl (hoardLeast_ok h.things ah_0 ch_0 (by first | assumption | omega | exact Greedy.pos_of hy1 (by assumption))) hf31 (fun w hw => (rd_base (i := 5) rfl hh_0) w hw) rfl ?_
          refine w_pure (p_indexAddr (L := h.things) (T := tItem) (i := (Greedy.least h.things : Int)) rfl rfl (rd_base (i := 5) rfl hh_0) Try.underlying37 sz41 (by omega) (by omega)) rfl rfl rfl ?_
          refine w_pure (p_fieldAddrE rfl fo41_0) rfl rfl rfl ?_
          refine w_pure (p_loadF (i := Greedy.least h.things) (j := 0) (T := tItem) (L := h.things) (v := .int .i64 ((h.things[Greedy.least h.things]).key)) rfl (rd_base (i := 5) rfl hh_0) (by first | assumption | omega) sh3 rfl) rfl rfl rfl ?_
          refine w_pure (p_assign (v := .int .i64 ((h.things[Greedy.least h.things]).key)) rfl) rfl rfl rfl ?_
          refine w_nil ?_
          refine q_then ?_
          refine c_seq ?_
          refine c_region ?_
          refine o_call0 (v := .bool true) rfl (hoardBegun_ok ) hf32 (fun _ _ => trivial) rfl ?_
          refine o_pure (p_move (v := .bool true) rfl) rfl rfl rfl ?_
          refine o_unguard 90 rfl rfl ?_
          refine o_pure (p_load_agg (i := 4) (vs := [.int .i64 h.room, .int .i64 h.floor, .slice ah_0 h.things.length ch_0]) rfl rfl sh39 rfl rfl) rfl rfl rfl ?_
          refine o_unguard 90 rfl rfl ?_
          refine o_call0 (v := .int .i64 (Greedy.check h)) rfl (gcheck_ok h ah_0 ch_0) hf33 (fun w hw => (rd_base (i := 5) rfl hh_0) w hw) rfl ?_
          refine o_unguard 90 rfl rfl ?_
          refine o_pure (p_move (v := .int .i64 (Greedy.check h)) rfl) rfl rfl rfl ?_
          refine o_unguard 90 rfl rfl ?_
          refine o_pure (p_eq (p := (Greedy.check h)) (q := (Greedy.check h)) rfl rfl) rfl rfl rfl ?_
          refine o_pure (p_pick_true (u := .bool ((Greedy.check h) == (Greedy.check h))) rfl rfl) rfl rfl rfl ?_
          refine o_pure (p_move (v := .bool ((Greedy.check h) == (Greedy.check h))) rfl) rfl rfl rfl ?_
          refine o_and (p := 100) 4 (decide (((Greedy.access h t).1) = (⟨0, 0, []⟩ : DGreedy))) ?_ ?_ ?_
          · intro hb27 hk
            simp only [beq_iff_eq] at hb27
            refine o_unguard 96 rfl rfl ?_
            refine o_pure (p_load_agg (i := 1) (vs := [.int .i64 (((Greedy.access h t).1).room), .int .i64 (((Greedy.access h t).1).floor), .slice a5 (((Greedy.access h t).1).things).length c6]) rfl rfl sh39 rfl rfl) rfl rfl rfl ?_
            refine o_unguard 96 rfl rfl ?_
            refine o_pure (p_load_agg (i := 0) (vs := [.int .i64 0, .int .i64 0, .slice none 0 0]) rfl rfl sh39 rfl rfl) rfl rfl rfl ?_
            refine o_unguard 96 rfl rfl ?_
            refine o_call0 (v := .bool (decide (((Greedy.access h t).1) = (⟨0, 0, []⟩ : DGreedy)))) rfl (sameHoard_ok ((Greedy.access h t).1) a5 c6 (⟨0, 0, []⟩ : DGreedy) none 0) hf34 (fun w hw => ⟨(rd_ent (i := 2) rfl (fun w h => h.1)) w hw, rd_nil w hw⟩) rfl ?_
            refine o_pure (p_pick_true (u := .bool (decide (((Greedy.access h t).1) = (⟨0, 0, []⟩ : DGreedy)))) rfl rfl) rfl rfl rfl ?_
            exact o_sub (Sub.cons rfl (Sub.skip rfl (Sub.skip rfl (Sub.skip rfl (Sub.skip rfl (Sub.skip rfl (Sub.refl _))))))) hk
          · intro hb27 hk
            refine o_guard_no rfl 96 rfl rfl rfl rfl rfl ?_
            refine o_guard_no rfl 96 rfl rfl rfl rfl rfl ?_
            refine o_guard_no rfl 96 rfl rfl rfl rfl rfl ?_
            refine o_pure (p_pick_false (v := .bool false) rfl rfl) rfl rfl rfl ?_
            exact o_sub (Sub.cons rfl (Sub.skip rfl (Sub.skip rfl (Sub.skip rfl (Sub.skip rfl (Sub.skip rfl (Sub.refl _))))))) hk
          refine o_pure (p_move (v := .bool (((Greedy.check h) == (Greedy.check h)) && (decide (((Greedy.access h t).1) = (⟨0, 0, []⟩ : DGreedy))))) rfl) rfl rfl rfl ?_
          refine o_and (p := 105) 4 (((Greedy.access h t).2.1) == false) ?_ ?_ ?_
          · intro hb28 hk
            simp only [Bool.and_eq_true, beq_iff_eq, decide_eq_true_eq] at hb28
            refine o_unguard 101 rfl rfl ?_
            refine o_pure (p_move (v := .bool ((Greedy.access h t).2.1)) rfl) rfl rfl rfl ?_
            refine o_unguard 101 rfl rfl ?_
            refine o_pure (p_move (v := .bool false) rfl) rfl rfl rfl ?_
            refine o_unguard 101 rfl rfl ?_
            refine o_pure (p_eqBool (b := ((Greedy.access h t).2.1)) (c := false) rfl rfl Try.underlying4) rfl rfl rfl ?_
            refine o_pure (p_pick_true (u := .bool (((Greedy.access h t).2.1) == false)) rfl rfl) rfl rfl rfl ?_
            exact o_sub (Sub.cons rfl (Sub.skip rfl (Sub.skip rfl (Sub.skip rfl (Sub.skip rfl (Sub.skip rfl (Sub.refl _))))))) hk
          · intro hb28 hk
            refine o_guard_no rfl 101 rfl rfl rfl rfl rfl ?_
            refine o_guard_no rfl 101 rfl rfl rfl rfl rfl ?_
            refine o_guard_no rfl 101 rfl rfl rfl rfl rfl ?_
            refine o_pure (p_pick_false (v := .bool false) rfl rfl) rfl rfl rfl ?_
            exact o_sub (Sub.cons rfl (Sub.skip rfl (Sub.skip rfl (Sub.skip rfl (Sub.skip rfl (Sub.skip rfl (Sub.refl _))))))) hk
          refine o_pure (p_move (v := .bool ((((Greedy.check h) == (Greedy.check h)) && (decide (((Greedy.access h t).1) = (⟨0, 0, []⟩ : DGreedy)))) && (((Greedy.access h t).2.1) == false))) rfl) rfl rfl rfl ?_
          refine o_and (p := 110) 4 (Ref.sameInts ((Greedy.access h t).2.2) []) ?_ ?_ ?_
          · intro hb29 hk
            simp only [Bool.and_eq_true, beq_iff_eq, decide_eq_true_eq] at hb29
            refine o_unguard 106 rfl rfl ?_
            refine o_pure (p_move (v := .slice a7 ((Greedy.access h t).2.2).length c8) rfl) rfl rfl rfl ?_
            refine o_unguard 106 rfl rfl ?_
            refine o_pure (p_move (v := .slice none 0 0) rfl) rfl rfl rfl ?_
            refine o_unguard 106 rfl rfl ?_
            refine o_call0 (v := .bool (Ref.sameInts ((Greedy.access h t).2.2) [])) rfl (sameInts_ok ((Greedy.access h t).2.2) a7 c8 [] none 0) hf22 (fun w hw => ⟨(rd_ent (i := 2) rfl (fun w h => h.2)) w hw, rd_nil w hw⟩) rfl ?_
            refine o_pure (p_pick_true (u := .bool (Ref.sameInts ((Greedy.access h t).2.2) [])) rfl rfl) rfl rfl rfl ?_
            exact o_sub (Sub.cons rfl (Sub.skip rfl (Sub.skip rfl (Sub.skip rfl (Sub.skip rfl (Sub.skip rfl (Sub.refl _))))))) hk
          · intro hb29 hk
            refine o_guard_no rfl 106 rfl rfl rfl rfl rfl ?_
            refine o_guard_no rfl 106 rfl rfl rfl rfl rfl ?_
            refine o_guard_no rfl 106 rfl rfl rfl rfl rfl ?_
            refine o_pure (p_pick_false (v := .bool false) rfl rfl) rfl rfl rfl ?_
            exact o_sub (Sub.cons rfl (Sub.skip rfl (Sub.skip rfl (Sub.skip rfl (Sub.skip rfl (Sub.skip rfl (Sub.refl _))))))) hk
          refine o_pure (p_move (v := .bool (((((Greedy.check h) == (Greedy.check h)) && (decide (((Greedy.access h t).1) = (⟨0, 0, []⟩ : DGreedy)))) && (((Greedy.access h t).2.1) == false)) && (Ref.sameInts ((Greedy.access h t).2.2) []))) rfl) rfl rfl rfl ?_
          refine o_and (p := 115) 4 ((Greedy.accessErr h t) == 3) ?_ ?_ ?_
          · intro hb30 hk
            simp only [Bool.and_eq_true, beq_iff_eq, decide_eq_true_eq] at hb30
            refine o_unguard 111 rfl rfl ?_
            refine o_pure (p_move (v := .int .i64 (Greedy.accessErr h t)) rfl) rfl rfl rfl ?_
            refine o_unguard 111 rfl rfl ?_
            refine o_pure (p_move (v := .int .i64 3) rfl) rfl rfl rfl ?_
            refine o_unguard 111 rfl rfl ?_
            refine o_pure (p_eq (p := (Greedy.accessErr h t)) (q := 3) rfl rfl) rfl rfl rfl ?_
            refine o_pure (p_pick_true (u := .bool ((Greedy.accessErr h t) == 3)) rfl rfl) rfl rfl rfl ?_
            exact o_sub (Sub.cons rfl (Sub.skip rfl (Sub.skip rfl (Sub.skip rfl (Sub.skip rfl (Sub.skip rfl (Sub.refl _))))))) hk
          · intro hb30 hk
            refine o_guard_no rfl 111 rfl rfl rfl rfl rfl ?_
            refine o_guard_no rfl 111 rfl rfl rfl rfl rfl ?_
            refine o_guard_no rfl 111 rfl rfl rfl rfl rfl ?_
            refine o_pure (p_pick_false (v := .bool false) rfl rfl) rfl rfl rfl ?_
            exact o_sub (Sub.cons rfl (Sub.skip rfl (Sub.skip rfl (Sub.skip rfl (Sub.skip rfl (Sub.skip rfl (Sub.refl _))))))) hk
          refine o_pure (p_move (v := .bool ((((((Greedy.check h) == (Greedy.check h)) && (decide (((Greedy.access h t).1) = (⟨0, 0, []⟩ : DGreedy)))) && (((Greedy.access h t).2.1) == false)) && (Ref.sameInts ((Greedy.access h t).2.2) [])) && ((Greedy.accessErr h t) == 3))) rfl) rfl rfl rfl ?_
          refine o_and (p := 120) 4 (((Greedy.total h).1) == (Greedy.sizes h.things)) ?_ ?_ ?_
          · intro hb31 hk
            simp only [Bool.and_eq_true, beq_iff_eq, decide_eq_true_eq] at hb31
            refine o_unguard 116 rfl rfl ?_
            refine o_pure (p_move (v := .int .i64 ((Greedy.total h).1)) rfl) rfl rfl rfl ?_
            refine o_unguard 116 rfl rfl ?_
            refine o_pure (p_move (v := .int .i64 (Greedy.sizes h.things)) rfl) rfl rfl rfl ?_
            refine o_unguard 116 rfl rfl ?_
            refine o_pure (p_eq (p := ((Greedy.total h).1)) (q := (Greedy.sizes h.things)) rfl rfl) rfl rfl rfl ?_
            refine o_pure (p_pick_true (u := .bool (((Greedy.total h).1) == (Greedy.sizes h.things))) rfl rfl) rfl rfl rfl ?_
            exact o_sub (Sub.cons rfl (Sub.skip rfl (Sub.skip rfl (Sub.skip rfl (Sub.skip rfl (Sub.skip rfl (Sub.refl _))))))) hk
          · intro hb31 hk
            refine o_guard_no rfl 116 rfl rfl rfl rfl rfl ?_
            refine o_guard_no rfl 116 rfl rfl rfl rfl rfl ?_
            refine o_guard_no rfl 116 rfl rfl rfl rfl rfl ?_
            refine o_pure (p_pick_false (v := .bool false) rfl rfl) rfl rfl rfl ?_
            exact o_sub (Sub.cons rfl (Sub.skip rfl (Sub.skip rfl (Sub.skip rfl (Sub.skip rfl (Sub.skip rfl (Sub.refl _))))))) hk
          refine o_pure (p_move (v := .bool (((((((Greedy.check h) == (Greedy.check h)) && (decide (((Greedy.access h t).1) = (⟨0, 0, []⟩ : DGreedy)))) && (((Greedy.access h t).2.1) == false)) && (Ref.sameInts ((Greedy.access h t).2.2) [])) && ((Greedy.accessErr h t) == 3)) && (((Greedy.total h).1) == (Greedy.sizes h.things)))) rfl) rfl rfl rfl ?_
          refine o_and (p := 125) 4 (((Greedy.total h).2) == costs) ?_ ?_ ?_
          · intro hb32 hk
            simp only [Bool.and_eq_true, beq_iff_eq, decide_eq_true_eq] at hb32
            refine o_unguard 121 rfl rfl ?_
            refine o_pure (p_move (v := .int .i64 ((Greedy.total h).2)) rfl) rfl rfl rfl ?_
            refine o_unguard 121 rfl rfl ?_
            refine o_pure (p_move (v := .int .i64 costs) rfl) rfl rfl rfl ?_
            refine o_unguard 121 rfl rfl ?_
            refine o_pure (p_eq (p := ((Greedy.total h).2)) (q := costs) rfl rfl) rfl rfl rfl ?_
            refine o_pure (p_pick_true (u := .bool (((Greedy.total h).2) == costs)) rfl rfl) rfl rfl rfl ?_
            exact o_sub (Sub.cons rfl (Sub.skip rfl (Sub.skip rfl (Sub.skip rfl (Sub.skip rfl (Sub.skip rfl (Sub.refl _))))))) hk
          · intro hb32 hk
            refine o_guard_no rfl 121 rfl rfl rfl rfl rfl ?_
            refine o_guard_no rfl 121 rfl rfl rfl rfl rfl ?_
            refine o_guard_no rfl 121 rfl rfl rfl rfl rfl ?_
            refine o_pure (p_pick_false (v := .bool false) rfl rfl) rfl rfl rfl ?_
            exact o_sub (Sub.cons rfl (Sub.skip rfl (Sub.skip rfl (Sub.skip rfl (Sub.skip rfl (Sub.skip rfl (Sub.refl _))))))) hk
          refine o_pure (p_move (v := .bool ((((((((Greedy.check h) == (Greedy.check h)) && (decide (((Greedy.access h t).1) = (⟨0, 0, []⟩ : DGreedy)))) && (((Greedy.access h t).2.1) == false)) && (Ref.sameInts ((Greedy.access h t).2.2) [])) && ((Greedy.accessErr h t) == 3)) && (((Greedy.total h).1) == (Greedy.sizes h.things))) && (((Greedy.total h).2) == costs))) rfl) rfl rfl rfl ?_
          refine o_and (p := 130) 4 ((Greedy.check h) == (Greedy.check h)) ?_ ?_ ?_
          · intro hb33 hk
            simp only [Bool.and_eq_true, beq_iff_eq, decide_eq_true_eq] at hb33
            refine o_unguard 126 rfl rfl ?_
            refine o_pure (p_move (v := .int .i64 (Greedy.check h)) rfl) rfl rfl rfl ?_
            refine o_unguard 126 rfl rfl ?_
            refine o_pure (p_move (v := .int .i64 (Greedy.check h)) rfl) rfl rfl rfl ?_
            refine o_unguard 126 rfl rfl ?_
            refine o_pure (p_eq (p := (Greedy.check h)) (q := (Greedy.check h)) rfl rfl) rfl rfl rfl ?_
            refine o_pure (p_pick_true (u := .bool ((Greedy.check h) == (Greedy.check h))) rfl rfl) rfl rfl rfl ?_
            exact o_sub (Sub.cons rfl (Sub.skip rfl (Sub.skip rfl (Sub.skip rfl (Sub.skip rfl (Sub.skip rfl (Sub.refl _))))))) hk
          · intro hb33 hk
            refine o_guard_no rfl 126 rfl rfl rfl rfl rfl ?_
            refine o_guard_no rfl 126 rfl rfl rfl rfl rfl ?_
            refine o_guard_no rfl 126 rfl rfl rfl rfl rfl ?_
            refine o_pure (p_pick_false (v := .bool false) rfl rfl) rfl rfl rfl ?_
            exact o_sub (Sub.cons rfl (Sub.skip rfl (Sub.skip rfl (Sub.skip rfl (Sub.skip rfl (Sub.skip rfl (Sub.refl _))))))) hk
          refine o_pure (p_move (v := .bool (((((((((Greedy.check h) == (Greedy.check h)) && (decide (((Greedy.access h t).1) = (⟨0, 0, []⟩ : DGreedy)))) && (((Greedy.access h t).2.1) == false)) && (Ref.sameInts ((Greedy.access h t).2.2) [])) && ((Greedy.accessErr h t) == 3)) && (((Greedy.total h).1) == (Greedy.sizes h.things))) && (((Greedy.total h).2) == costs)) && ((Greedy.check h) == (Greedy.check h)))) rfl) rfl rfl rfl ?_
          refine o_and (p := 135) 4 ((Greedy.victim h) == (h.things[Greedy.least h.things]).key) ?_ ?_ ?_
          · intro hb34 hk
            simp only [Bool.and_eq_true, beq_iff_eq, decide_eq_true_eq] at hb34
            refine o_unguard 131 rfl rfl ?_
            refine o_pure (p_move (v := .int .i64 (Greedy.victim h)) rfl) rfl rfl rfl ?_
            refine o_unguard 131 rfl rfl ?_
            refine o_pure (p_move (v := .int .i64 ((h.things[Greedy.least h.things]).key)) rfl) rfl rfl rfl ?_
            refine o_unguard 131 rfl rfl ?_
            refine o_pure (p_eq (p := (Greedy.victim h)) (q := (h.things[Greedy.least h.things]).key) rfl rfl) rfl rfl rfl ?_
            refine o_pure (p_pick_true (u := .bool ((Greedy.victim h) == (h.things[Greedy.least h.things]).key)) rfl rfl) rfl rfl rfl ?_
            exact o_sub (Sub.cons rfl (Sub.skip rfl (Sub.skip rfl (Sub.skip rfl (Sub.skip rfl (Sub.skip rfl (Sub.refl _))))))) hk
          · intro hb34 hk
            refine o_guard_no rfl 131 rfl rfl rfl rfl rfl ?_
            refine o_guard_no rfl 131 rfl rfl rfl rfl rfl ?_
            refine o_guard_no rfl 131 rfl rfl rfl rfl rfl ?_
            refine o_pure (p_pick_false (v := .bool false) rfl rfl) rfl rfl rfl ?_
            exact o_sub (Sub.cons rfl (Sub.skip rfl (Sub.skip rfl (Sub.skip rfl (Sub.skip rfl (Sub.skip rfl (Sub.refl _))))))) hk
          refine o_pure (p_move (v := .bool ((((((((((Greedy.check h) == (Greedy.check h)) && (decide (((Greedy.access h t).1) = (⟨0, 0, []⟩ : DGreedy)))) && (((Greedy.access h t).2.1) == false)) && (Ref.sameInts ((Greedy.access h t).2.2) [])) && ((Greedy.accessErr h t) == 3)) && (((Greedy.total h).1) == (Greedy.sizes h.things))) && (((Greedy.total h).2) == costs)) && ((Greedy.check h) == (Greedy.check h))) && ((Greedy.victim h) == (h.things[Greedy.least h.things]).key))) rfl) rfl rfl rfl ?_
          refine o_and (p := 140) 4 ((Greedy.victimErr h) == (Greedy.check h)) ?_ ?_ ?_
          · intro hb35 hk
            simp only [Bool.and_eq_true, beq_iff_eq, decide_eq_true_eq] at hb35
            refine o_unguard 136 rfl rfl ?_
            refine o_pure (p_move (v := .int .i64 (Greedy.victimErr h)) rfl) rfl rfl rfl ?_
            refine o_unguard 136 rfl rfl ?_
            refine o_pure (p_move (v := .int .i64 (Greedy.check h)) rfl) rfl rfl rfl ?_
            refine o_unguard 136 rfl rfl ?_
            refine o_pure (p_eq (p := (Greedy.victimErr h)) (q := (Greedy.check h)) rfl rfl) rfl rfl rfl ?_
            refine o_pure (p_pick_true (u := .bool ((Greedy.victimErr h) == (Greedy.check h))) rfl rfl) rfl rfl rfl ?_
            exact o_sub (Sub.cons rfl (Sub.skip rfl (Sub.skip rfl (Sub.skip rfl (Sub.skip rfl (Sub.skip rfl (Sub.refl _))))))) hk
          · intro hb35 hk
            refine o_guard_no rfl 136 rfl rfl rfl rfl rfl ?_
            refine o_guard_no rfl 136 rfl rfl rfl rfl rfl ?_
            refine o_guard_no rfl 136 rfl rfl rfl rfl rfl ?_
            refine o_pure (p_pick_false (v := .bool false) rfl rfl) rfl rfl rfl ?_
            exact o_sub (Sub.cons rfl (Sub.skip rfl (Sub.skip rfl (Sub.skip rfl (Sub.skip rfl (Sub.skip rfl (Sub.refl _))))))) hk
          refine o_pure (p_assign (v := .bool (((((((((((Greedy.check h) == (Greedy.check h)) && (decide (((Greedy.access h t).1) = (⟨0, 0, []⟩ : DGreedy)))) && (((Greedy.access h t).2.1) == false)) && (Ref.sameInts ((Greedy.access h t).2.2) [])) && ((Greedy.accessErr h t) == 3)) && (((Greedy.total h).1) == (Greedy.sizes h.things))) && (((Greedy.total h).2) == costs)) && ((Greedy.check h) == (Greedy.check h))) && ((Greedy.victim h) == (h.things[Greedy.least h.things]).key)) && ((Greedy.victimErr h) == (Greedy.check h)))) rfl) rfl rfl rfl ?_
          refine o_nil ?_
          refine q_then ?_
          refine c_ret ?_
          have hr0 : ((((((((((((Greedy.check h) == (Greedy.check h)) && (decide (((Greedy.access h t).1) = (⟨0, 0, []⟩ : DGreedy)))) && (((Greedy.access h t).2.1) == false)) && (Ref.sameInts ((Greedy.access h t).2.2) [])) && ((Greedy.accessErr h t) == 3)) && (((Greedy.total h).1) == (Greedy.sizes h.things))) && (((Greedy.total h).2) == costs)) && ((Greedy.check h) == (Greedy.check h))) && ((Greedy.victim h) == (h.things[Greedy.least h.things]).key)) && ((Greedy.victimErr h) == (Greedy.check h))) : Bool) = true := by
            first
              | (have ha := Greedy.acc1 (h := h) (t := t) (by assumption); have ht := Greedy.tot_bad (h := h) (by assumption); have hv := Greedy.vic_bad (h := h) (by assumption); simp [ha.1, ha.2, hv.1, hv.2, ht, Ref.sameInts, Greedy.zero, *]; done)
              | (have ha := Greedy.acc2 (h := h) (t := t) ⟨by assumption, by assumption⟩; have ht := Greedy.tot_ok (h := h) (by assumption); have hv := Greedy.vic_none (h := h) ⟨by assumption, by assumption⟩; simp [ha.1, ha.2, hv.1, hv.2, ht, Ref.sameInts, Greedy.zero, hcs]; done)
              | (have ha := Greedy.acc2 (h := h) (t := t) ⟨by assumption, by assumption⟩; have ht := Greedy.tot_ok (h := h) (by assumption); have hv := Greedy.vic_ok (h := h) (by assumption) hll; have hce : Greedy.check h = 0 := (by assumption); simp [ha.1, ha.2, hv.1, hv.2, ht, Ref.sameInts, Greedy.zero, hcs, hce]; done)
              | (have ha := Greedy.acc3 (h := h) (t := t) (by assumption) hrt; have ht := Greedy.tot_ok (h := h) (by assumption); have hv := Greedy.vic_none (h := h) ⟨by assumption, by assumption⟩; have hce : Greedy.check h = 0 := (by assumption); simp [ha.1, ha.2, hv.1, hv.2, ht, Ref.sameInts, Greedy.zero, hcs, hce]; done)
              | (have ha := Greedy.acc3 (h := h) (t := t) (by assumption) hrt; have ht := Greedy.tot_ok (h := h) (by assumption); have hv := Greedy.vic_ok (h := h) (by assumption) hll; have hce : Greedy.check h = 0 := (by assumption); simp [ha.1, ha.2, hv.1, hv.2, ht, Ref.sameInts, Greedy.zero, hcs, hce]; done)
          refine q_end0 (v := .bool (((((((((((Greedy.check h) == (Greedy.check h)) && (decide (((Greedy.access h t).1) = (⟨0, 0, []⟩ : DGreedy)))) && (((Greedy.access h t).2.1) == false)) && (Ref.sameInts ((Greedy.access h t).2.2) [])) && ((Greedy.accessErr h t) == 3)) && (((Greedy.total h).1) == (Greedy.sizes h.things))) && (((Greedy.total h).2) == costs)) && ((Greedy.check h) == (Greedy.check h))) && ((Greedy.victim h) == (h.things[Greedy.least h.things]).key)) && ((Greedy.victimErr h) == (Greedy.check h)))) (rt1 rfl (r_tmp rfl)) (i := 5) rfl ?_
          exact (by have hcc := congrArg (fun (y0 : Bool) => (.bool y0 : Value)) hr0; exact hcc)
    · simp only [Bool.not_eq_false'] at hc14
      have hrt := hc14
      have hy0 := Greedy.Hy.of (by assumption) hc14
      refine c_region ?_
      refine o_pure (p_load_agg (i := 4) (vs := [.int .i64 h.room, .int .i64 h.floor, .slice ah_0 h.things.length ch_0]) rfl rfl sh39 rfl rfl) rfl rfl rfl ?_
      refine o_pure (p_load_agg (i := 3) (vs := [.int .i64 t.key, .int .i64 t.size, .int .i64 t.cost, .int .i64 t.worth]) rfl rfl sh41 rfl rfl) rfl rfl rfl ?_
      refine o_callM rfl (hoardTouch_ok h ah_0 ch_0 t (by first | assumption | exact hy1.less' hll)) hf29 (fun w hw => (rd_base (i := 5) rfl hh_0) w hw) rfl (fun _ _ _ _ ha hA => ⟨SlR.agree ha hA.1, SlR.agree ha hA.2⟩) ?_
      rintro ⟨a38, c39, a40, c41⟩ S36
      refine o_know (fun w hw => (hw.at (i := 0) rfl).here.1.2.1) (fun hlr42 => ?_)
      refine o_know (fun w hw => (hw.at (i := 0) rfl).here.2.2.1) (fun hlr43 => ?_)
      refine o_pure (p_move (v := .tuple #[.agg #[.int .i64 (((Greedy.touch h t).1).room), .int .i64 (((Greedy.touch h t).1).floor), .slice a38 (((Greedy.touch h t).1).things).length c39], .bool ((Greedy.touch h t).2.1), .slice a40 ((Greedy.touch h t).2.2).length c41]) rfl) rfl rfl rfl ?_
      refine o_pure (p_extract (vs := [.agg #[.int .i64 (((Greedy.touch h t).1).room), .int .i64 (((Greedy.touch h t).1).floor), .slice a38 (((Greedy.touch h t).1).things).length c39], .bool ((Greedy.touch h t).2.1), .slice a40 ((Greedy.touch h t).2.2).length c41]) (v := .agg #[.int .i64 (((Greedy.touch h t).1).room), .int .i64 (((Greedy.touch h t).1).floor), .slice a38 (((Greedy.touch h t).1).things).length c39]) rfl rfl) rfl rfl rfl ?_
      refine o_pure (p_extract (vs := [.agg #[.int .i64 (((Greedy.touch h t).1).room), .int .i64 (((Greedy.touch h t).1).floor), .slice a38 (((Greedy.touch h t).1).things).length c39], .bool ((Greedy.touch h t).2.1), .slice a40 ((Greedy.touch h t).2.2).length c41]) (v := .bool ((Greedy.touch h t).2.1)) rfl rfl) rfl rfl rfl ?_
      refine o_pure (p_extract (vs := [.agg #[.int .i64 (((Greedy.touch h t).1).room), .int .i64 (((Greedy.touch h t).1).floor), .slice a38 (((Greedy.touch h t).1).things).length c39], .bool ((Greedy.touch h t).2.1), .slice a40 ((Greedy.touch h t).2.2).length c41]) (v := .slice a40 ((Greedy.touch h t).2.2).length c41) rfl rfl) rfl rfl rfl ?_
      refine o_storeN (i := 1) (vs := [.int .i64 (((Greedy.touch h t).1).room), .int .i64 (((Greedy.touch h t).1).floor), .slice a38 (((Greedy.touch h t).1).things).length c39]) (cs' := [.int .i64 (((Greedy.touch h t).1).room), .int .i64 (((Greedy.touch h t).1).floor), .slice a38 (((Greedy.touch h t).1).things).length c39]) rfl rfl rfl sz39 rfl rfl rfl rfl ?_
      refine o_pure (p_assign (v := .bool ((Greedy.touch h t).2.1)) rfl) rfl rfl rfl ?_
      refine o_pure (p_assign (v := .slice a40 ((Greedy.touch h t).2.2).length c41) rfl) rfl rfl rfl ?_
      refine o_nil ?_
      refine q_then ?_
      refine c_seq ?_
      refine c_region ?_
      refine o_pure (p_fieldAddr (B := B1) (j := 0) (j' := 2) rfl fo39_2 rfl) rfl rfl rfl ?_
      refine o_pure (p_load (i := 5) (v := .slice ah_0 h.things.length ch_0) rfl rfl sh37 rfl) rfl rfl rfl ?_
      refine o_call0 (v := .int .i64 (Greedy.sizes h.things)) rfl (hoardSizes_ok h.things ah_0 ch_0 (by first | assumption | exact hok.fine | exact hy1.fine | exact (hI.fits).fine | exact Greedy.Fine.of_done hdone (by omega))) hf30 (fun w hw => (rd_base (i := 6) rfl hh_0) w hw) rfl ?_
      refine o_pure (p_assign (v := .int .i64 (Greedy.sizes h.things)) rfl) rfl rfl rfl ?_
      refine o_nil ?_
      refine q_then ?_
      refine c_seq ?_
      refine c_seq ?_
      refine c_region ?_
      refine o_pure (p_assign (v := .int .i64 0) rfl) rfl rfl rfl ?_
      refine o_nil ?_
      refine q_then ?_
      refine c_block ?_
      refine c_loop (St := Int × Nat)
        (fun ⟨costs, i⟩ => [(2, .pointer (some ⟨B1, 0, none⟩)), (5, .pointer (some ⟨B11, 0, none⟩)), (6, .bool ((Greedy.access h t).2.1)), (7, .slice a7 ((Greedy.access h t).2.2).length c8), (8, .int .i64 (Greedy.accessErr h t)), (9, .int .i64 ((Greedy.total h).1)), (10, .int .i64 ((Greedy.total h).2)), (11, .int .i64 (Greedy.check h)), (12, .int .i64 (Greedy.victim h)), (13, .int .i64 (Greedy.victimErr h)), (14, .int .i64 (Greedy.check h)), (15, .int .i64 (Greedy.check h)), (16, .int .i64 (Greedy.check h)), (17, .pointer (some ⟨B12, 0, none⟩)), (18, .bool ((Greedy.touch h t).2.1)), (19, .int .i64 (Greedy.sizes h.things)), (20, .int .i64 costs), (21, .int .i64 0), (22, .slice a40 ((Greedy.touch h t).2.2).length c41), (23, .int .i64 (i : Int))])
        (fun ⟨costs, i⟩ => [⟨S36, fun w => SlR tItem S36 w a38 c39 (((Greedy.touch h t).1).things) ∧ SlR tInt S36 w a40 c41 ((Greedy.touch h t).2.2)⟩, box B12 [.int .i64 (((Greedy.touch h t).1).room), .int .i64 (((Greedy.touch h t).1).floor), .slice a38 (((Greedy.touch h t).1).things).length c39] 39, box B11 [.int .i64 (((Greedy.access h t).1).room), .int .i64 (((Greedy.access h t).1).floor), .slice a5 (((Greedy.access h t).1).things).length c6] 39, ⟨S3, fun w => SlR tItem S3 w a5 c6 (((Greedy.access h t).1).things) ∧ SlR tInt S3 w a7 c8 ((Greedy.access h t).2.2)⟩, box B2 [.int .i64 t.key, .int .i64 t.size, .int .i64 t.cost, .int .i64 t.worth] 41, box B1 [.int .i64 h.room, .int .i64 h.floor, .slice ah_0 h.things.length ch_0] 39, base w0])
        (fun ⟨costs, i⟩ => i ≤ h.things.length ∧ costs = Greedy.costs (h.things.take i))
        (fun ⟨costs, i⟩ => h.things.length - i)
        (0, 0) ?_ (Sub.cons rfl (Sub.cons rfl (Sub.cons rfl (Sub.cons rfl (Sub.cons rfl (Sub.cons rfl (Sub.cons rfl (Sub.cons rfl (Sub.cons rfl (Sub.cons rfl (Sub.cons rfl (Sub.cons rfl (Sub.cons rfl (Sub.cons rfl (Sub.cons rfl (Sub.cons rfl (Sub.cons rfl (Sub.cons rfl (Sub.cons rfl (Sub.cons rfl (Sub.nil _))))))))))))))))))))) (fun _ hw => hw) ?_
      · exact ⟨Nat.zero_le _, rfl⟩
      rintro ⟨costs, i⟩ hI K hK44
      have hcb := Greedy.costs_bd hok.fine i
      have hci := hI.2
      show SC _ _ Try.prog 141 w0 _ _ [(2, .pointer (some ⟨B1, 0, none⟩)), (5, .pointer (some ⟨B11, 0, none⟩)), (6, .bool ((Greedy.access h t).2.1)), (7, .slice a7 ((Greedy.access h t).2.2).length c8), (8, .int .i64 (Greedy.accessErr h t)), (9, .int .i64 ((Greedy.total h).1)), (10, .int .i64 ((Greedy.total h).2)), (11, .int .i64 (Greedy.check h)), (12, .int .i64 (Greedy.victim h)), (13, .int .i64 (Greedy.victimErr h)), (14, .int .i64 (Greedy.check h)), (15, .int .i64 (Greedy.check h)), (16, .int .i64 (Greedy.check h)), (17, .pointer (some ⟨B12, 0, none⟩)), (18, .bool ((Greedy.touch h t).2.1)), (19, .int .i64 (Greedy.sizes h.things)), (20, .int .i64 costs), (21, .int .i64 0), (22, .slice a40 ((Greedy.touch h t).2.2).length c41), (23, .int .i64 (i : Int))] [⟨S36, fun w => SlR tItem S36 w a38 c39 (((Greedy.touch h t).1).things) ∧ SlR tInt S36 w a40 c41 ((Greedy.touch h t).2.2)⟩, box B12 [.int .i64 (((Greedy.touch h t).1).room), .int .i64 (((Greedy.touch h t).1).floor), .slice a38 (((Greedy.touch h t).1).things).length c39] 39, box B11 [.int .i64 (((Greedy.access h t).1).room), .int .i64 (((Greedy.access h t).1).floor), .slice a5 (((Greedy.access h t).1).things).length c6] 39, ⟨S3, fun w => SlR tItem S3 w a5 c6 (((Greedy.access h t).1).things) ∧ SlR tInt S3 w a7 c8 ((Greedy.access h t).2.2)⟩, box B2 [.int .i64 t.key, .int .i64 t.size, .int .i64 t.cost, .int .i64 t.worth] 41, box B1 [.int .i64 h.room, .int .i64 h.floor, .slice ah_0 h.things.length ch_0] 39, base w0]
      refine c_seq ?_
      refine c_seq ?_
      refine c_region ?_
      refine o_pure (p_move (v := .int .i64 (i : Int)) rfl) rfl rfl rfl ?_
      refine o_pure (p_fieldAddr (B := B1) (j := 0) (j' := 2) rfl fo39_2 rfl) rfl rfl rfl ?_
      refine o_pure (p_load (i := 5) (v := .slice ah_0 h.things.length ch_0) rfl rfl sh37 rfl) rfl rfl rfl ?_
      refine o_pure (p_len_slice (len := h.things.length) rfl rfl Try.underlying37) rfl rfl rfl ?_
      refine o_pure (p_lt (p := (i : Int)) (q := (h.things.length : Int)) rfl rfl) rfl rfl rfl ?_
      refine o_nil ?_
      refine q_then ?_
      refine c_cond (b := decide ((i : Int) < (h.things.length : Int))) rfl (fun hc45 => ?_) (fun hc45 => ?_)
      · simp only [decide_eq_true_eq] at hc45
        have hit := Greedy.SInv.it (k := i) hok.fine (by omega)
        refine c_skip ?_
        refine q_then ?_
        refine c_seq ?_
        refine c_block ?_
        refine c_region ?_
        refine o_pure (p_move (v := .int .i64 costs) rfl) rfl rfl rfl ?_
        refine o_pure (p_fieldAddr (B := B1) (j := 0) (j' := 2) rfl fo39_2 rfl) rfl rfl rfl ?_
        refine o_pure (p_load (i := 5) (v := .slice ah_0 h.things.length ch_0) rfl rfl sh37 rfl) rfl rfl rfl ?_
        refine o_pure (p_move (v := .int .i64 (i : Int)) rfl) rfl rfl rfl ?_
        refine o_pure (p_indexAddr (L := h.things) (T := tItem) (i := (i : Int)) rfl rfl (rd_base (i := 6) rfl hh_0) Try.underlying37 sz41 (by omega) (by omega)) rfl rfl rfl ?_
        refine o_pure (p_fieldAddrE rfl fo41_2) rfl rfl rfl ?_
        refine o_pure (p_loadF (i := i) (j := 2) (T := tItem) (L := h.things) (v := .int .i64 ((h.things[i]).cost)) rfl (rd_base (i := 6) rfl hh_0) (by first | assumption | omega) sh3 rfl) rfl rfl rfl ?_
        refine o_pure (p_addb (p := costs) (q := (h.things[i]).cost) rfl rfl (by omega)) rfl rfl rfl ?_
        refine o_pure (p_assign (v := .int .i64 (costs + (h.things[i]).cost)) rfl) rfl rfl rfl ?_
        refine o_nil ?_
        refine q_block_normal (q_then ?_)
        refine c_region ?_
        refine o_pure (p_move (v := .int .i64 (i : Int)) rfl) rfl rfl rfl ?_
        refine o_pure (p_addb (p := (i : Int)) (q := 1) rfl rfl (by omega)) rfl rfl rfl ?_
        refine o_pure (p_assign (v := .int .i64 ((i : Int) + 1)) rfl) rfl rfl rfl ?_
        refine o_nil ?_
        refine q_round hK44 ((costs + (h.things[i]).cost), i + 1) ?_ ?_ ?_ ?_
        · clear hK44
          exact ⟨by omega, by rw [Greedy.costs_snoc (by omega), ← hI.2]⟩
        · (try dsimp only); omega
        · exact Sub.cons rfl (Sub.cons rfl (Sub.cons rfl (Sub.cons rfl (Sub.cons rfl (Sub.cons rfl (Sub.cons rfl (Sub.cons rfl (Sub.cons rfl (Sub.cons rfl (Sub.cons rfl (Sub.cons rfl (Sub.cons rfl (Sub.cons rfl (Sub.cons rfl (Sub.cons rfl (Sub.cons rfl (Sub.cons rfl (Sub.cons rfl (Sub.cons rfl (Sub.nil _))))))))))))))))))))
        · exact fun _ hw => HeapIs.pick hw [0, 1, 2, 3, 4, 5, 6] (by decide) rfl
      · simp only [decide_eq_false_iff_not, Int.not_lt] at hc45
        have hcs : costs = Greedy.costs h.things := by rw [hI.2, Greedy.costs_all (by omega)]
        refine c_exit ?_
        refine q_then_exit (q_then_exit (q_block_exit (q_then ?_)))
        refine c_seq ?_
        refine c_region ?_
        refine o_pure (p_fieldAddr (B := B1) (j := 0) (j' := 2) rfl fo39_2 rfl) rfl rfl rfl ?_
        refine o_pure (p_load (i := 5) (v := .slice ah_0 h.things.length ch_0) rfl rfl sh37 rfl) rfl rfl rfl ?_
        refine o_pure (p_len_slice (len := h.things.length) rfl rfl Try.underlying37) rfl rfl rfl ?_
        refine o_pure (p_eq (p := (h.things.length : Int)) (q := 0) rfl rfl) rfl rfl rfl ?_
        refine o_nil ?_
        refine q_then ?_
        refine c_cond (b := ((h.things.length : Int) == 0)) rfl (fun hc46 => ?_) (fun hc46 => ?_)
        · simp only [beq_iff_eq] at hc46
          refine c_region ?_
          refine o_pure (p_assign (v := .int .i64 5) rfl) rfl rfl rfl ?_
          refine o_nil ?_
          refine q_then ?_
          refine c_seq ?_
          refine c_region ?_
          refine o_call0 (v := .bool true) rfl (hoardBegun_ok ) hf32 (fun _ _ => trivial) rfl ?_
          refine o_pure (p_move (v := .bool true) rfl) rfl rfl rfl ?_
          refine o_unguard 90 rfl rfl ?_
          refine o_pure (p_load_agg (i := 5) (vs := [.int .i64 h.room, .int .i64 h.floor, .slice ah_0 h.things.length ch_0]) rfl rfl sh39 rfl rfl) rfl rfl rfl ?_
          refine o_unguard 90 rfl rfl ?_
          refine o_call0 (v := .int .i64 (Greedy.check h)) rfl (gcheck_ok h ah_0 ch_0) hf33 (fun w hw => (rd_base (i := 6) rfl hh_0) w hw) rfl ?_
          refine o_unguard 90 rfl rfl ?_
          refine o_pure (p_move (v := .int .i64 (Greedy.check h)) rfl) rfl rfl rfl ?_
          refine o_unguard 90 rfl rfl ?_
          refine o_pure (p_eq (p := (Greedy.check h)) (q := (Greedy.check h)) rfl rfl) rfl rfl rfl ?_
          refine o_pure (p_pick_true (u := .bool ((Greedy.check h) == (Greedy.check h))) rfl rfl) rfl rfl rfl ?_
          refine o_pure (p_move (v := .bool ((Greedy.check h) == (Greedy.check h))) rfl) rfl rfl rfl ?_
          refine o_and (p := 100) 4 (decide (((Greedy.access h t).1) = ((Greedy.touch h t).1))) ?_ ?_ ?_
          · intro hb47 hk
            simp only [beq_iff_eq] at hb47
            refine o_unguard 96 rfl rfl ?_
            refine o_pure (p_load_agg (i := 2) (vs := [.int .i64 (((Greedy.access h t).1).room), .int .i64 (((Greedy.access h t).1).floor), .slice a5 (((Greedy.access h t).1).things).length c6]) rfl rfl sh39 rfl rfl) rfl rfl rfl ?_
            refine o_unguard 96 rfl rfl ?_
            refine o_pure (p_load_agg (i := 1) (vs := [.int .i64 (((Greedy.touch h t).1).room), .int .i64 (((Greedy.touch h t).1).floor), .slice a38 (((Greedy.touch h t).1).things).length c39]) rfl rfl sh39 rfl rfl) rfl rfl rfl ?_
            refine o_unguard 96 rfl rfl ?_
            refine o_call0 (v := .bool (decide (((Greedy.access h t).1) = ((Greedy.touch h t).1)))) rfl (sameHoard_ok ((Greedy.access h t).1) a5 c6 ((Greedy.touch h t).1) a38 c39) hf34 (fun w hw => ⟨(rd_ent (i := 3) rfl (fun w h => h.1)) w hw, (rd_ent (i := 0) rfl (fun w h => h.1)) w hw⟩) rfl ?_
            refine o_pure (p_pick_true (u := .bool (decide (((Greedy.access h t).1) = ((Greedy.touch h t).1)))) rfl rfl) rfl rfl rfl ?_
            exact o_sub (Sub.cons rfl (Sub.skip rfl (Sub.skip rfl (Sub.skip rfl (Sub.skip rfl (Sub.skip rfl (Sub.refl _))))))) hk
          · intro hb47 hk
            refine o_guard_no rfl 96 rfl rfl rfl rfl rfl ?_
            refine o_guard_no rfl 96 rfl rfl rfl rfl rfl ?_
            refine o_guard_no rfl 96 rfl rfl rfl rfl rfl ?_
            refine o_pure (p_pick_false (v := .bool false) rfl rfl) rfl rfl rfl ?_
            exact o_sub (Sub.cons rfl (Sub.skip rfl (Sub.skip rfl (Sub.skip rfl (Sub.skip rfl (Sub.skip rfl (Sub.refl _))))))) hk
          refine o_pure (p_move (v := .bool (((Greedy.check h) == (Greedy.check h)) && (decide (((Greedy.access h t).1) = ((Greedy.touch h t).1))))) rfl) rfl rfl rfl ?_
          refine o_and (p := 105) 4 (((Greedy.access h t).2.1) == ((Greedy.touch h t).2.1)) ?_ ?_ ?_
          · intro hb48 hk
            simp only [Bool.and_eq_true, beq_iff_eq, decide_eq_true_eq] at hb48
            refine o_unguard 101 rfl rfl ?_
            refine o_pure (p_move (v := .bool ((Greedy.access h t).2.1)) rfl) rfl rfl rfl ?_
            refine o_unguard 101 rfl rfl ?_
            refine o_pure (p_move (v := .bool ((Greedy.touch h t).2.1)) rfl) rfl rfl rfl ?_
            refine o_unguard 101 rfl rfl ?_
            refine o_pure (p_eqBool (b := ((Greedy.access h t).2.1)) (c := ((Greedy.touch h t).2.1)) rfl rfl Try.underlying4) rfl rfl rfl ?_
            refine o_pure (p_pick_true (u := .bool (((Greedy.access h t).2.1) == ((Greedy.touch h t).2.1))) rfl rfl) rfl rfl rfl ?_
            exact o_sub (Sub.cons rfl (Sub.skip rfl (Sub.skip rfl (Sub.skip rfl (Sub.skip rfl (Sub.skip rfl (Sub.refl _))))))) hk
          · intro hb48 hk
            refine o_guard_no rfl 101 rfl rfl rfl rfl rfl ?_
            refine o_guard_no rfl 101 rfl rfl rfl rfl rfl ?_
            refine o_guard_no rfl 101 rfl rfl rfl rfl rfl ?_
            refine o_pure (p_pick_false (v := .bool false) rfl rfl) rfl rfl rfl ?_
            exact o_sub (Sub.cons rfl (Sub.skip rfl (Sub.skip rfl (Sub.skip rfl (Sub.skip rfl (Sub.skip rfl (Sub.refl _))))))) hk
          refine o_pure (p_move (v := .bool ((((Greedy.check h) == (Greedy.check h)) && (decide (((Greedy.access h t).1) = ((Greedy.touch h t).1)))) && (((Greedy.access h t).2.1) == ((Greedy.touch h t).2.1)))) rfl) rfl rfl rfl ?_
          refine o_and (p := 110) 4 (Ref.sameInts ((Greedy.access h t).2.2) ((Greedy.touch h t).2.2)) ?_ ?_ ?_
          · intro hb49 hk
            simp only [Bool.and_eq_true, beq_iff_eq, decide_eq_true_eq] at hb49
            refine o_unguard 106 rfl rfl ?_
            refine o_pure (p_move (v := .slice a7 ((Greedy.access h t).2.2).length c8) rfl) rfl rfl rfl ?_
            refine o_unguard 106 rfl rfl ?_
            refine o_pure (p_move (v := .slice a40 ((Greedy.touch h t).2.2).length c41) rfl) rfl rfl rfl ?_
            refine o_unguard 106 rfl rfl ?_
            refine o_call0 (v := .bool (Ref.sameInts ((Greedy.access h t).2.2) ((Greedy.touch h t).2.2))) rfl (sameInts_ok ((Greedy.access h t).2.2) a7 c8 ((Greedy.touch h t).2.2) a40 c41) hf22 (fun w hw => ⟨(rd_ent (i := 3) rfl (fun w h => h.2)) w hw, (rd_ent (i := 0) rfl (fun w h => h.2)) w hw⟩) rfl ?_
            refine o_pure (p_pick_true (u := .bool (Ref.sameInts ((Greedy.access h t).2.2) ((Greedy.touch h t).2.2))) rfl rfl) rfl rfl rfl ?_
            exact o_sub (Sub.cons rfl (Sub.skip rfl (Sub.skip rfl (Sub.skip rfl (Sub.skip rfl (Sub.skip rfl (Sub.refl _))))))) hk
          · intro hb49 hk
            refine o_guard_no rfl 106 rfl rfl rfl rfl rfl ?_
            refine o_guard_no rfl 106 rfl rfl rfl rfl rfl ?_
            refine o_guard_no rfl 106 rfl rfl rfl rfl rfl ?_
            refine o_pure (p_pick_false (v := .bool false) rfl rfl) rfl rfl rfl ?_
            exact o_sub (Sub.cons rfl (Sub.skip rfl (Sub.skip rfl (Sub.skip rfl (Sub.skip rfl (Sub.skip rfl (Sub.refl _))))))) hk
          refine o_pure (p_move (v := .bool (((((Greedy.check h) == (Greedy.check h)) && (decide (((Greedy.access h t).1) = ((Greedy.touch h t).1)))) && (((Greedy.access h t).2.1) == ((Greedy.touch h t).2.1))) && (Ref.sameInts ((Greedy.access h t).2.2) ((Greedy.touch h t).2.2)))) rfl) rfl rfl rfl ?_
          refine o_and (p := 115) 4 ((Greedy.accessErr h t) == (Greedy.check h)) ?_ ?_ ?_
          · intro hb50 hk
            simp only [Bool.and_eq_true, beq_iff_eq, decide_eq_true_eq] at hb50
            refine o_unguard 111 rfl rfl ?_
            refine o_pure (p_move (v := .int .i64 (Greedy.accessErr h t)) rfl) rfl rfl rfl ?_
            refine o_unguard 111 rfl rfl ?_
            refine o_pure (p_move (v := .int .i64 (Greedy.check h)) rfl) rfl rfl rfl ?_
            refine o_unguard 111 rfl rfl ?_
            refine o_pure (p_eq (p := (Greedy.accessErr h t)) (q := (Greedy.check h)) rfl rfl) rfl rfl rfl ?_
            refine o_pure (p_pick_true (u := .bool ((Greedy.accessErr h t) == (Greedy.check h))) rfl rfl) rfl rfl rfl ?_
            exact o_sub (Sub.cons rfl (Sub.skip rfl (Sub.skip rfl (Sub.skip rfl (Sub.skip rfl (Sub.skip rfl (Sub.refl _))))))) hk
          · intro hb50 hk
            refine o_guard_no rfl 111 rfl rfl rfl rfl rfl ?_
            refine o_guard_no rfl 111 rfl rfl rfl rfl rfl ?_
            refine o_guard_no rfl 111 rfl rfl rfl rfl rfl ?_
            refine o_pure (p_pick_false (v := .bool false) rfl rfl) rfl rfl rfl ?_
            exact o_sub (Sub.cons rfl (Sub.skip rfl (Sub.skip rfl (Sub.skip rfl (Sub.skip rfl (Sub.skip rfl (Sub.refl _))))))) hk
          refine o_pure (p_move (v := .bool ((((((Greedy.check h) == (Greedy.check h)) && (decide (((Greedy.access h t).1) = ((Greedy.touch h t).1)))) && (((Greedy.access h t).2.1) == ((Greedy.touch h t).2.1))) && (Ref.sameInts ((Greedy.access h t).2.2) ((Greedy.touch h t).2.2))) && ((Greedy.accessErr h t) == (Greedy.check h)))) rfl) rfl rfl rfl ?_
          refine o_and (p := 120) 4 (((Greedy.total h).1) == (Greedy.sizes h.things)) ?_ ?_ ?_
          · intro hb51 hk
            simp only [Bool.and_eq_true, beq_iff_eq, decide_eq_true_eq] at hb51
            refine o_unguard 116 rfl rfl ?_
            refine o_pure (p_move (v := .int .i64 ((Greedy.total h).1)) rfl) rfl rfl rfl ?_
            refine o_unguard 116 rfl rfl ?_
            refine o_pure (p_move (v := .int .i64 (Greedy.sizes h.things)) rfl) rfl rfl rfl ?_
            refine o_unguard 116 rfl rfl ?_
            refine o_pure (p_eq (p := ((Greedy.total h).1)) (q := (Greedy.sizes h.things)) rfl rfl) rfl rfl rfl ?_
            refine o_pure (p_pick_true (u := .bool (((Greedy.total h).1) == (Greedy.sizes h.things))) rfl rfl) rfl rfl rfl ?_
            exact o_sub (Sub.cons rfl (Sub.skip rfl (Sub.skip rfl (Sub.skip rfl (Sub.skip rfl (Sub.skip rfl (Sub.refl _))))))) hk
          · intro hb51 hk
            refine o_guard_no rfl 116 rfl rfl rfl rfl rfl ?_
            refine o_guard_no rfl 116 rfl rfl rfl rfl rfl ?_
            refine o_guard_no rfl 116 rfl rfl rfl rfl rfl ?_
            refine o_pure (p_pick_false (v := .bool false) rfl rfl) rfl rfl rfl ?_
            exact o_sub (Sub.cons rfl (Sub.skip rfl (Sub.skip rfl (Sub.skip rfl (Sub.skip rfl (Sub.skip rfl (Sub.refl _))))))) hk
          refine o_pure (p_move (v := .bool (((((((Greedy.check h) == (Greedy.check h)) && (decide (((Greedy.access h t).1) = ((Greedy.touch h t).1)))) && (((Greedy.access h t).2.1) == ((Greedy.touch h t).2.1))) && (Ref.sameInts ((Greedy.access h t).2.2) ((Greedy.touch h t).2.2))) && ((Greedy.accessErr h t) == (Greedy.check h))) && (((Greedy.total h).1) == (Greedy.sizes h.things)))) rfl) rfl rfl rfl ?_
          refine o_and (p := 125) 4 (((Greedy.total h).2) == costs) ?_ ?_ ?_
          · intro hb52 hk
            simp only [Bool.and_eq_true, beq_iff_eq, decide_eq_true_eq] at hb52
            refine o_unguard 121 rfl rfl ?_
            refine o_pure (p_move (v := .int .i64 ((Greedy.total h).2)) rfl) rfl rfl rfl ?_
            refine o_unguard 121 rfl rfl ?_
            refine o_pure (p_move (v := .int .i64 costs) rfl) rfl rfl rfl ?_
            refine o_unguard 121 rfl rfl ?_
            refine o_pure (p_eq (p := ((Greedy.total h).2)) (q := costs) rfl rfl) rfl rfl rfl ?_
            refine o_pure (p_pick_true (u := .bool (((Greedy.total h).2) == costs)) rfl rfl) rfl rfl rfl ?_
            exact o_sub (Sub.cons rfl (Sub.skip rfl (Sub.skip rfl (Sub.skip rfl (Sub.skip rfl (Sub.skip rfl (Sub.refl _))))))) hk
          · intro hb52 hk
            refine o_guard_no rfl 121 rfl rfl rfl rfl rfl ?_
            refine o_guard_no rfl 121 rfl rfl rfl rfl rfl ?_
            refine o_guard_no rfl 121 rfl rfl rfl rfl rfl ?_
            refine o_pure (p_pick_false (v := .bool false) rfl rfl) rfl rfl rfl ?_
            exact o_sub (Sub.cons rfl (Sub.skip rfl (Sub.skip rfl (Sub.skip rfl (Sub.skip rfl (Sub.skip rfl (Sub.refl _))))))) hk
          refine o_pure (p_move (v := .bool ((((((((Greedy.check h) == (Greedy.check h)) && (decide (((Greedy.access h t).1) = ((Greedy.touch h t).1)))) && (((Greedy.access h t).2.1) == ((Greedy.touch h t).2.1))) && (Ref.sameInts ((Greedy.access h t).2.2) ((Greedy.touch h t).2.2))) && ((Greedy.accessErr h t) == (Greedy.check h))) && (((Greedy.total h).1) == (Greedy.sizes h.things))) && (((Greedy.total h).2) == costs))) rfl) rfl rfl rfl ?_
          refine o_and (p := 130) 4 ((Greedy.check h) == (Greedy.check h)) ?_ ?_ ?_
          · intro hb53 hk
            simp only [Bool.and_eq_true, beq_iff_eq, decide_eq_true_eq] at hb53
            refine o_unguard 126 rfl rfl ?_
            refine o_pure (p_move (v := .int .i64 (Greedy.check h)) rfl) rfl rfl rfl ?_
            refine o_unguard 126 rfl rfl ?_
            refine o_pure (p_move (v := .int .i64 (Greedy.check h)) rfl) rfl rfl rfl ?_
            refine o_unguard 126 rfl rfl ?_
            refine o_pure (p_eq (p := (Greedy.check h)) (q := (Greedy.check h)) rfl rfl) rfl rfl rfl ?_
            refine o_pure (p_pick_true (u := .bool ((Greedy.check h) == (Greedy.check h))) rfl rfl) rfl rfl rfl ?_
            exact o_sub (Sub.cons rfl (Sub.skip rfl (Sub.skip rfl (Sub.skip rfl (Sub.skip rfl (Sub.skip rfl (Sub.refl _))))))) hk
          · intro hb53 hk
            refine o_guard_no rfl 126 rfl rfl rfl rfl rfl ?_
            refine o_guard_no rfl 126 rfl rfl rfl rfl rfl ?_
            refine o_guard_no rfl 126 rfl rfl rfl rfl rfl ?_
            refine o_pure (p_pick_false (v := .bool false) rfl rfl) rfl rfl rfl ?_
            exact o_sub (Sub.cons rfl (Sub.skip rfl (Sub.skip rfl (Sub.skip rfl (Sub.skip rfl (Sub.skip rfl (Sub.refl _))))))) hk
          refine o_pure (p_move (v := .bool (((((((((Greedy.check h) == (Greedy.check h)) && (decide (((Greedy.access h t).1) = ((Greedy.touch h t).1)))) && (((Greedy.access h t).2.1) == ((Greedy.touch h t).2.1))) && (Ref.sameInts ((Greedy.access h t).2.2) ((Greedy.touch h t).2.2))) && ((Greedy.accessErr h t) == (Greedy.check h))) && (((Greedy.total h).1) == (Greedy.sizes h.things))) && (((Greedy.total h).2) == costs)) && ((Greedy.check h) == (Greedy.check h)))) rfl) rfl rfl rfl ?_
          refine o_and (p := 135) 4 ((Greedy.victim h) == 0) ?_ ?_ ?_
          · intro hb54 hk
            simp only [Bool.and_eq_true, beq_iff_eq, decide_eq_true_eq] at hb54
            refine o_unguard 131 rfl rfl ?_
            refine o_pure (p_move (v := .int .i64 (Greedy.victim h)) rfl) rfl rfl rfl ?_
            refine o_unguard 131 rfl rfl ?_
            refine o_pure (p_move (v := .int .i64 0) rfl) rfl rfl rfl ?_
            refine o_unguard 131 rfl rfl ?_
            refine o_pure (p_eq (p := (Greedy.victim h)) (q := 0) rfl rfl) rfl rfl rfl ?_
            refine o_pure (p_pick_true (u := .bool ((Greedy.victim h) == 0)) rfl rfl) rfl rfl rfl ?_
            exact o_sub (Sub.cons rfl (Sub.skip rfl (Sub.skip rfl (Sub.skip rfl (Sub.skip rfl (Sub.skip rfl (Sub.refl _))))))) hk
          · intro hb54 hk
            refine o_guard_no rfl 131 rfl rfl rfl rfl rfl ?_
            refine o_guard_no rfl 131 rfl rfl rfl rfl rfl ?_
            refine o_guard_no rfl 131 rfl rfl rfl rfl rfl ?_
            refine o_pure (p_pick_false (v := .bool false) rfl rfl) rfl rfl rfl ?_
            exact o_sub (Sub.cons rfl (Sub.skip rfl (Sub.skip rfl (Sub.skip rfl (Sub.skip rfl (Sub.skip rfl (Sub.refl _))))))) hk
          refine o_pure (p_move (v := .bool ((((((((((Greedy.check h) == (Greedy.check h)) && (decide (((Greedy.access h t).1) = ((Greedy.touch h t).1)))) && (((Greedy.access h t).2.1) == ((Greedy.touch h t).2.1))) && (Ref.sameInts ((Greedy.access h t).2.2) ((Greedy.touch h t).2.2))) && ((Greedy.accessErr h t) == (Greedy.check h))) && (((Greedy.total h).1) == (Greedy.sizes h.things))) && (((Greedy.total h).2) == costs)) && ((Greedy.check h) == (Greedy.check h))) && ((Greedy.victim h) == 0))) rfl) rfl rfl rfl ?_
          refine o_and (p := 140) 4 ((Greedy.victimErr h) == 5) ?_ ?_ ?_
          · intro hb55 hk
            simp only [Bool.and_eq_true, beq_iff_eq, decide_eq_true_eq] at hb55
            refine o_unguard 136 rfl rfl ?_
            refine o_pure (p_move (v := .int .i64 (Greedy.victimErr h)) rfl) rfl rfl rfl ?_
            refine o_unguard 136 rfl rfl ?_
            refine o_pure (p_move (v := .int .i64 5) rfl) rfl rfl rfl ?_
            refine o_unguard 136 rfl rfl ?_
            refine o_pure (p_eq (p := (Greedy.victimErr h)) (q := 5) rfl rfl) rfl rfl rfl ?_
            refine o_pure (p_pick_true (u := .bool ((Greedy.victimErr h) == 5)) rfl rfl) rfl rfl rfl ?_
            exact o_sub (Sub.cons rfl (Sub.skip rfl (Sub.skip rfl (Sub.skip rfl (Sub.skip rfl (Sub.skip rfl (Sub.refl _))))))) hk
          · intro hb55 hk
            refine o_guard_no rfl 136 rfl rfl rfl rfl rfl ?_
            refine o_guard_no rfl 136 rfl rfl rfl rfl rfl ?_
            refine o_guard_no rfl 136 rfl rfl rfl rfl rfl ?_
            refine o_pure (p_pick_false (v := .bool false) rfl rfl) rfl rfl rfl ?_
            exact o_sub (Sub.cons rfl (Sub.skip rfl (Sub.skip rfl (Sub.skip rfl (Sub.skip rfl (Sub.skip rfl (Sub.refl _))))))) hk
          refine o_pure (p_assign (v := .bool (((((((((((Greedy.check h) == (Greedy.check h)) && (decide (((Greedy.access h t).1) = ((Greedy.touch h t).1)))) && (((Greedy.access h t).2.1) == ((Greedy.touch h t).2.1))) && (Ref.sameInts ((Greedy.access h t).2.2) ((Greedy.touch h t).2.2))) && ((Greedy.accessErr h t) == (Greedy.check h))) && (((Greedy.total h).1) == (Greedy.sizes h.things))) && (((Greedy.total h).2) == costs)) && ((Greedy.check h) == (Greedy.check h))) && ((Greedy.victim h) == 0)) && ((Greedy.victimErr h) == 5))) rfl) rfl rfl rfl ?_
          refine o_nil ?_
          refine q_then ?_
          refine c_ret ?_
          have hr0 : ((((((((((((Greedy.check h) == (Greedy.check h)) && (decide (((Greedy.access h t).1) = ((Greedy.touch h t).1)))) && (((Greedy.access h t).2.1) == ((Greedy.touch h t).2.1))) && (Ref.sameInts ((Greedy.access h t).2.2) ((Greedy.touch h t).2.2))) && ((Greedy.accessErr h t) == (Greedy.check h))) && (((Greedy.total h).1) == (Greedy.sizes h.things))) && (((Greedy.total h).2) == costs)) && ((Greedy.check h) == (Greedy.check h))) && ((Greedy.victim h) == 0)) && ((Greedy.victimErr h) == 5)) : Bool) = true := by
            first
              | (have ha := Greedy.acc1 (h := h) (t := t) (by assumption); have ht := Greedy.tot_bad (h := h) (by assumption); have hv := Greedy.vic_bad (h := h) (by assumption); simp [ha.1, ha.2, hv.1, hv.2, ht, Ref.sameInts, Greedy.zero, *]; done)
              | (have ha := Greedy.acc2 (h := h) (t := t) ⟨by assumption, by assumption⟩; have ht := Greedy.tot_ok (h := h) (by assumption); have hv := Greedy.vic_none (h := h) ⟨by assumption, by assumption⟩; simp [ha.1, ha.2, hv.1, hv.2, ht, Ref.sameInts, Greedy.zero, hcs]; done)
              | (have ha := Greedy.acc2 (h := h) (t := t) ⟨by assumption, by assumption⟩; have ht := Greedy.tot_ok (h := h) (by assumption); have hv := Greedy.vic_ok (h := h) (by assumption) hll; have hce : Greedy.check h = 0 := (by assumption); simp [ha.1, ha.2, hv.1, hv.2, ht, Ref.sameInts, Greedy.zero, hcs, hce]; done)
              | (have ha := Greedy.acc3 (h := h) (t := t) (by assumption) hrt; have ht := Greedy.tot_ok (h := h) (by assumption); have hv := Greedy.vic_none (h := h) ⟨by assumption, by assumption⟩; have hce : Greedy.check h = 0 := (by assumption); simp [ha.1, ha.2, hv.1, hv.2, ht, Ref.sameInts, Greedy.zero, hcs, hce]; done)
              | (have ha := Greedy.acc3 (h := h) (t := t) (by assumption) hrt; have ht := Greedy.tot_ok (h := h) (by assumption); have hv := Greedy.vic_ok (h := h) (by assumption) hll; have hce : Greedy.check h = 0 := (by assumption); simp [ha.1, ha.2, hv.1, hv.2, ht, Ref.sameInts, Greedy.zero, hcs, hce]; done)
          refine q_end0 (v := .bool (((((((((((Greedy.check h) == (Greedy.check h)) && (decide (((Greedy.access h t).1) = ((Greedy.touch h t).1)))) && (((Greedy.access h t).2.1) == ((Greedy.touch h t).2.1))) && (Ref.sameInts ((Greedy.access h t).2.2) ((Greedy.touch h t).2.2))) && ((Greedy.accessErr h t) == (Greedy.check h))) && (((Greedy.total h).1) == (Greedy.sizes h.things))) && (((Greedy.total h).2) == costs)) && ((Greedy.check h) == (Greedy.check h))) && ((Greedy.victim h) == 0)) && ((Greedy.victimErr h) == 5))) (rt1 rfl (r_tmp rfl)) (i := 6) rfl ?_
          exact (by have hcc := congrArg (fun (y0 : Bool) => (.bool y0 : Value)) hr0; exact hcc)
        · simp only [beq_eq_false_iff_ne, ne_eq] at hc46
          have hll := Greedy.least_lt (l := h.things) (by omega)
          refine c_draw hmix (by kernel_rfl) ?_
          refine w_pure (p_fieldAddr (B := B1) (j := 0) (j' := 2) rfl fo39_2 rfl) rfl rfl rfl ?_
          refine w_pure (p_load (i := 5) (v := .slice ah_0 h.things.length ch_0) rfl rfl sh37 rfl) rfl rfl rfl ?_
          refine w_pure (p_fieldAddr (B := B1) (j := 0) (j' := 2) rfl fo39_2 rfl) rfl rfl rfl ?_
          refine w_pure (p_load (i := 5) (v := .slice ah_0 h.things.length ch_0) rfl rfl sh37 rfl) rfl rfl rfl ?_
          refine w_call0 (v := .int .i64 (Greedy.least h.things : Int)) rfl (hoardLeast_ok h.things ah_0 ch_0 (by first | assumption | omega | exact Greedy.pos_of hy1 (by assumption))) hf31 (fun w hw => (rd_base (i := 6) rfl hh_0) w hw) rfl ?_
          refine w_pure (p_indexAddr (L := h.things) (T := tItem) (i := (Greedy.least h.things : Int)) rfl rfl (rd_base (i := 6) rfl hh_0) Try.underlying37 sz41 (by omega) (by omega)) rfl rfl rfl ?_
          refine w_pure (p_fieldAddrE rfl fo41_0) rfl rfl rfl ?_
          refine w_pure (p_loadF (i := Greedy.least h.things) (j := 0) (T := tItem) (L := h.things) (v := .int .i64 ((h.things[Greedy.least h.things]).key)) rfl (rd_base (i := 6) rfl hh_0) (by first | assumption | omega) sh3 rfl) rfl rfl rfl ?_
          refine w_pure (p_assign (v := .int .i64 ((h.things[Greedy.least h.things]).key)) rfl) rfl rfl rfl ?_
          refine w_nil ?_
          refine q_then ?_
          refine c_seq ?_
          refine c_region ?_
          refine o_call0 (v := .bool true) rfl (hoardBegun_ok ) hf32 (fun _ _ => trivial) rfl ?_
          refine o_pure (p_move (v := .bool true) rfl) rfl rfl rfl ?_
          refine o_unguard 90 rfl rfl ?_
          refine o_pure (p_load_agg (i := 5) (vs := [.int .i64 h.room, .int .i64 h.floor, .slice ah_0 h.things.length ch_0]) rfl rfl sh39 rfl rfl) rfl rfl rfl ?_
          refine o_unguard 90 rfl rfl ?_
          refine o_call0 (v := .int .i64 (Greedy.check h)) rfl (gcheck_ok h ah_0 ch_0) hf33 (fun w hw => (rd_base (i := 6) rfl hh_0) w hw) rfl ?_
          refine o_unguard 90 rfl rfl ?_
          refine o_pure (p_move (v := .int .i64 (Greedy.check h)) rfl) rfl rfl rfl ?_
          refine o_unguard 90 rfl rfl ?_
          refine o_pure (p_eq (p := (Greedy.check h)) (q := (Greedy.check h)) rfl rfl) rfl rfl rfl ?_
          refine o_pure (p_pick_true (u := .bool ((Greedy.check h) == (Greedy.check h))) rfl rfl) rfl rfl rfl ?_
          refine o_pure (p_move (v := .bool ((Greedy.check h) == (Greedy.check h))) rfl) rfl rfl rfl ?_
          refine o_and (p := 100) 4 (decide (((Greedy.access h t).1) = ((Greedy.touch h t).1))) ?_ ?_ ?_
          · intro hb56 hk
            simp only [beq_iff_eq] at hb56
            refine o_unguard 96 rfl rfl ?_
            refine o_pure (p_load_agg (i := 2) (vs := [.int .i64 (((Greedy.access h t).1).room), .int .i64 (((Greedy.access h t).1).floor), .slice a5 (((Greedy.access h t).1).things).length c6]) rfl rfl sh39 rfl rfl) rfl rfl rfl ?_
            refine o_unguard 96 rfl rfl ?_
            refine o_pure (p_load_agg (i := 1) (vs := [.int .i64 (((Greedy.touch h t).1).room), .int .i64 (((Greedy.touch h t).1).floor), .slice a38 (((Greedy.touch h t).1).things).length c39]) rfl rfl sh39 rfl rfl) rfl rfl rfl ?_
            refine o_unguard 96 rfl rfl ?_
            refine o_call0 (v := .bool (decide (((Greedy.access h t).1) = ((Greedy.touch h t).1)))) rfl (sameHoard_ok ((Greedy.access h t).1) a5 c6 ((Greedy.touch h t).1) a38 c39) hf34 (fun w hw => ⟨(rd_ent (i := 3) rfl (fun w h => h.1)) w hw, (rd_ent (i := 0) rfl (fun w h => h.1)) w hw⟩) rfl ?_
            refine o_pure (p_pick_true (u := .bool (decide (((Greedy.access h t).1) = ((Greedy.touch h t).1)))) rfl rfl) rfl rfl rfl ?_
            exact o_sub (Sub.cons rfl (Sub.skip rfl (Sub.skip rfl (Sub.skip rfl (Sub.skip rfl (Sub.skip rfl (Sub.refl _))))))) hk
          · intro hb56 hk
            refine o_guard_no rfl 96 rfl rfl rfl rfl rfl ?_
            refine o_guard_no rfl 96 rfl rfl rfl rfl rfl ?_
            refine o_guard_no rfl 96 rfl rfl rfl rfl rfl ?_
            refine o_pure (p_pick_false (v := .bool false) rfl rfl) rfl rfl rfl ?_
            exact o_sub (Sub.cons rfl (Sub.skip rfl (Sub.skip rfl (Sub.skip rfl (Sub.skip rfl (Sub.skip rfl (Sub.refl _))))))) hk
          refine o_pure (p_move (v := .bool (((Greedy.check h) == (Greedy.check h)) && (decide (((Greedy.access h t).1) = ((Greedy.touch h t).1))))) rfl) rfl rfl rfl ?_
          refine o_and (p := 105) 4 (((Greedy.access h t).2.1) == ((Greedy.touch h t).2.1)) ?_ ?_ ?_
          · intro hb57 hk
            simp only [Bool.and_eq_true, beq_iff_eq, decide_eq_true_eq] at hb57
            refine o_unguard 101 rfl rfl ?_
            refine o_pure (p_move (v := .bool ((Greedy.access h t).2.1)) rfl) rfl rfl rfl ?_
            refine o_unguard 101 rfl rfl ?_
            refine o_pure (p_move (v := .bool ((Greedy.touch h t).2.1)) rfl) rfl rfl rfl ?_
            refine o_unguard 101 rfl rfl ?_
            refine o_pure (p_eqBool (b := ((Greedy.access h t).2.1)) (c := ((Greedy.touch h t).2.1)) rfl rfl Try.underlying4) rfl rfl rfl ?_
            refine o_pure (p_pick_true (u := .bool (((Greedy.access h t).2.1) == ((Greedy.touch h t).2.1))) rfl rfl) rfl rfl rfl ?_
            exact o_sub (Sub.cons rfl (Sub.skip rfl (Sub.skip rfl (Sub.skip rfl (Sub.skip rfl (Sub.skip rfl (Sub.refl _))))))) hk
          · intro hb57 hk
            refine o_guard_no rfl 101 rfl rfl rfl rfl rfl ?_
            refine o_guard_no rfl 101 rfl rfl rfl rfl rfl ?_
            refine o_guard_no rfl 101 rfl rfl rfl rfl rfl ?_
            refine o_pure (p_pick_false (v := .bool false) rfl rfl) rfl rfl rfl ?_
            exact o_sub (Sub.cons rfl (Sub.skip rfl (Sub.skip rfl (Sub.skip rfl (Sub.skip rfl (Sub.skip rfl (Sub.refl _))))))) hk
          refine o_pure (p_move (v := .bool ((((Greedy.check h) == (Greedy.check h)) && (decide (((Greedy.access h t).1) = ((Greedy.touch h t).1)))) && (((Greedy.access h t).2.1) == ((Greedy.touch h t).2.1)))) rfl) rfl rfl rfl ?_
          refine o_and (p := 110) 4 (Ref.sameInts ((Greedy.access h t).2.2) ((Greedy.touch h t).2.2)) ?_ ?_ ?_
          · intro hb58 hk
            simp only [Bool.and_eq_true, beq_iff_eq, decide_eq_true_eq] at hb58
            refine o_unguard 106 rfl rfl ?_
            refine o_pure (p_move (v := .slice a7 ((Greedy.access h t).2.2).length c8) rfl) rfl rfl rfl ?_
            refine o_unguard 106 rfl rfl ?_
            refine o_pure (p_move (v := .slice a40 ((Greedy.touch h t).2.2).length c41) rfl) rfl rfl rfl ?_
            refine o_unguard 106 rfl rfl ?_
            refine o_call0 (v := .bool (Ref.sameInts ((Greedy.access h t).2.2) ((Greedy.touch h t).2.2))) rfl (sameInts_ok ((Greedy.access h t).2.2) a7 c8 ((Greedy.touch h t).2.2) a40 c41) hf22 (fun w hw => ⟨(rd_ent (i := 3) rfl (fun w h => h.2)) w hw, (rd_ent (i := 0) rfl (fun w h => h.2)) w hw⟩) rfl ?_
            refine o_pure (p_pick_true (u := .bool (Ref.sameInts ((Greedy.access h t).2.2) ((Greedy.touch h t).2.2))) rfl rfl) rfl rfl rfl ?_
            exact o_sub (Sub.cons rfl (Sub.skip rfl (Sub.skip rfl (Sub.skip rfl (Sub.skip rfl (Sub.skip rfl (Sub.refl _))))))) hk
          · intro hb58 hk
            refine o_guard_no rfl 106 rfl rfl rfl rfl rfl ?_
            refine o_guard_no rfl 106 rfl rfl rfl rfl rfl ?_
            refine o_guard_no rfl 106 rfl rfl rfl rfl rfl ?_
            refine o_pure (p_pick_false (v := .bool false) rfl rfl) rfl rfl rfl ?_
            exact o_sub (Sub.cons rfl (Sub.skip rfl (Sub.skip rfl (Sub.skip rfl (Sub.skip rfl (Sub.skip rfl (Sub.refl _))))))) hk
          refine o_pure (p_move (v := .bool (((((Greedy.check h) == (Greedy.check h)) && (decide (((Greedy.access h t).1) = ((Greedy.touch h t).1)))) && (((Greedy.access h t).2.1) == ((Greedy.touch h t).2.1))) && (Ref.sameInts ((Greedy.access h t).2.2) ((Greedy.touch h t).2.2)))) rfl) rfl rfl rfl ?_
          refine o_and (p := 115) 4 ((Greedy.accessErr h t) == (Greedy.check h)) ?_ ?_ ?_
          · intro hb59 hk
            simp only [Bool.and_eq_true, beq_iff_eq, decide_eq_true_eq] at hb59
            refine o_unguard 111 rfl rfl ?_
            refine o_pure (p_move (v := .int .i64 (Greedy.accessErr h t)) rfl) rfl rfl rfl ?_
            refine o_unguard 111 rfl rfl ?_
            refine o_pure (p_move (v := .int .i64 (Greedy.check h)) rfl) rfl rfl rfl ?_
            refine o_unguard 111 rfl rfl ?_
            refine o_pure (p_eq (p := (Greedy.accessErr h t)) (q := (Greedy.check h)) rfl rfl) rfl rfl rfl ?_
            refine o_pure (p_pick_true (u := .bool ((Greedy.accessErr h t) == (Greedy.check h))) rfl rfl) rfl rfl rfl ?_
            exact o_sub (Sub.cons rfl (Sub.skip rfl (Sub.skip rfl (Sub.skip rfl (Sub.skip rfl (Sub.skip rfl (Sub.refl _))))))) hk
          · intro hb59 hk
            refine o_guard_no rfl 111 rfl rfl rfl rfl rfl ?_
            refine o_guard_no rfl 111 rfl rfl rfl rfl rfl ?_
            refine o_guard_no rfl 111 rfl rfl rfl rfl rfl ?_
            refine o_pure (p_pick_false (v := .bool false) rfl rfl) rfl rfl rfl ?_
            exact o_sub (Sub.cons rfl (Sub.skip rfl (Sub.skip rfl (Sub.skip rfl (Sub.skip rfl (Sub.skip rfl (Sub.refl _))))))) hk
          refine o_pure (p_move (v := .bool ((((((Greedy.check h) == (Greedy.check h)) && (decide (((Greedy.access h t).1) = ((Greedy.touch h t).1)))) && (((Greedy.access h t).2.1) == ((Greedy.touch h t).2.1))) && (Ref.sameInts ((Greedy.access h t).2.2) ((Greedy.touch h t).2.2))) && ((Greedy.accessErr h t) == (Greedy.check h)))) rfl) rfl rfl rfl ?_
          refine o_and (p := 120) 4 (((Greedy.total h).1) == (Greedy.sizes h.things)) ?_ ?_ ?_
          · intro hb60 hk
            simp only [Bool.and_eq_true, beq_iff_eq, decide_eq_true_eq] at hb60
            refine o_unguard 116 rfl rfl ?_
            refine o_pure (p_move (v := .int .i64 ((Greedy.total h).1)) rfl) rfl rfl rfl ?_
            refine o_unguard 116 rfl rfl ?_
            refine o_pure (p_move (v := .int .i64 (Greedy.sizes h.things)) rfl) rfl rfl rfl ?_
            refine o_unguard 116 rfl rfl ?_
            refine o_pure (p_eq (p := ((Greedy.total h).1)) (q := (Greedy.sizes h.things)) rfl rfl) rfl rfl rfl ?_
            refine o_pure (p_pick_true (u := .bool (((Greedy.total h).1) == (Greedy.sizes h.things))) rfl rfl) rfl rfl rfl ?_
            exact o_sub (Sub.cons rfl (Sub.skip rfl (Sub.skip rfl (Sub.skip rfl (Sub.skip rfl (Sub.skip rfl (Sub.refl _))))))) hk
          · intro hb60 hk
            refine o_guard_no rfl 116 rfl rfl rfl rfl rfl ?_
            refine o_guard_no rfl 116 rfl rfl rfl rfl rfl ?_
            refine o_guard_no rfl 116 rfl rfl rfl rfl rfl ?_
            refine o_pure (p_pick_false (v := .bool false) rfl rfl) rfl rfl rfl ?_
            exact o_sub (Sub.cons rfl (Sub.skip rfl (Sub.skip rfl (Sub.skip rfl (Sub.skip rfl (Sub.skip rfl (Sub.refl _))))))) hk
          refine o_pure (p_move (v := .bool (((((((Greedy.check h) == (Greedy.check h)) && (decide (((Greedy.access h t).1) = ((Greedy.touch h t).1)))) && (((Greedy.access h t).2.1) == ((Greedy.touch h t).2.1))) && (Ref.sameInts ((Greedy.access h t).2.2) ((Greedy.touch h t).2.2))) && ((Greedy.accessErr h t) == (Greedy.check h))) && (((Greedy.total h).1) == (Greedy.sizes h.things)))) rfl) rfl rfl rfl ?_
          refine o_and (p := 125) 4 (((Greedy.total h).2) == costs) ?_ ?_ ?_
          · intro hb61 hk
            simp only [Bool.and_eq_true, beq_iff_eq, decide_eq_true_eq] at hb61
            refine o_unguard 121 rfl rfl ?_
            refine o_pure (p_move (v := .int .i64 ((Greedy.total h).2)) rfl) rfl rfl rfl ?_
            refine o_unguard 121 rfl rfl ?_
            refine o_pure (p_move (v := .int .i64 costs) rfl) rfl rfl rfl ?_
            refine o_unguard 121 rfl rfl ?_
            refine o_pure (p_eq (p := ((Greedy.total h).2)) (q := costs) rfl rfl) rfl rfl rfl ?_
            refine o_pure (p_pick_true (u := .bool (((Greedy.total h).2) == costs)) rfl rfl) rfl rfl rfl ?_
            exact o_sub (Sub.cons rfl (Sub.skip rfl (Sub.skip rfl (Sub.skip rfl (Sub.skip rfl (Sub.skip rfl (Sub.refl _))))))) hk
          · intro hb61 hk
            refine o_guard_no rfl 121 rfl rfl rfl rfl rfl ?_
            refine o_guard_no rfl 121 rfl rfl rfl rfl rfl ?_
            refine o_guard_no rfl 121 rfl rfl rfl rfl rfl ?_
            refine o_pure (p_pick_false (v := .bool false) rfl rfl) rfl rfl rfl ?_
            exact o_sub (Sub.cons rfl (Sub.skip rfl (Sub.skip rfl (Sub.skip rfl (Sub.skip rfl (Sub.skip rfl (Sub.refl _))))))) hk
          refine o_pure (p_move (v := .bool ((((((((Greedy.check h) == (Greedy.check h)) && (decide (((Greedy.access h t).1) = ((Greedy.touch h t).1)))) && (((Greedy.access h t).2.1) == ((Greedy.touch h t).2.1))) && (Ref.sameInts ((Greedy.access h t).2.2) ((Greedy.touch h t).2.2))) && ((Greedy.accessErr h t) == (Greedy.check h))) && (((Greedy.total h).1) == (Greedy.sizes h.things))) && (((Greedy.total h).2) == costs))) rfl) rfl rfl rfl ?_
          refine o_and (p := 130) 4 ((Greedy.check h) == (Greedy.check h)) ?_ ?_ ?_
          · intro hb62 hk
            simp only [Bool.and_eq_true, beq_iff_eq, decide_eq_true_eq] at hb62
            refine o_unguard 126 rfl rfl ?_
            refine o_pure (p_move (v := .int .i64 (Greedy.check h)) rfl) rfl rfl rfl ?_
            refine o_unguard 126 rfl rfl ?_
            refine o_pure (p_move (v := .int .i64 (Greedy.check h)) rfl) rfl rfl rfl ?_
            refine o_unguard 126 rfl rfl ?_
            refine o_pure (p_eq (p := (Greedy.check h)) (q := (Greedy.check h)) rfl rfl) rfl rfl rfl ?_
            refine o_pure (p_pick_true (u := .bool ((Greedy.check h) == (Greedy.check h))) rfl rfl) rfl rfl rfl ?_
            exact o_sub (Sub.cons rfl (Sub.skip rfl (Sub.skip rfl (Sub.skip rfl (Sub.skip rfl (Sub.skip rfl (Sub.refl _))))))) hk
          · intro hb62 hk
            refine o_guard_no rfl 126 rfl rfl rfl rfl rfl ?_
            refine o_guard_no rfl 126 rfl rfl rfl rfl rfl ?_
            refine o_guard_no rfl 126 rfl rfl rfl rfl rfl ?_
            refine o_pure (p_pick_false (v := .bool false) rfl rfl) rfl rfl rfl ?_
            exact o_sub (Sub.cons rfl (Sub.skip rfl (Sub.skip rfl (Sub.skip rfl (Sub.skip rfl (Sub.skip rfl (Sub.refl _))))))) hk
          refine o_pure (p_move (v := .bool (((((((((Greedy.check h) == (Greedy.check h)) && (decide (((Greedy.access h t).1) = ((Greedy.touch h t).1)))) && (((Greedy.access h t).2.1) == ((Greedy.touch h t).2.1))) && (Ref.sameInts ((Greedy.access h t).2.2) ((Greedy.touch h t).2.2))) && ((Greedy.accessErr h t) == (Greedy.check h))) && (((Greedy.total h).1) == (Greedy.sizes h.things))) && (((Greedy.total h).2) == costs)) && ((Greedy.check h) == (Greedy.check h)))) rfl) rfl rfl rfl ?_
          refine o_and (p := 135) 4 ((Greedy.victim h) == (h.things[Greedy.least h.things]).key) ?_ ?_ ?_
          · intro hb63 hk
            simp only [Bool.and_eq_true, beq_iff_eq, decide_eq_true_eq] at hb63
            refine o_unguard 131 rfl rfl ?_
            refine o_pure (p_move (v := .int .i64 (Greedy.victim h)) rfl) rfl rfl rfl ?_
            refine o_unguard 131 rfl rfl ?_
            refine o_pure (p_move (v := .int .i64 ((h.things[Greedy.least h.things]).key)) rfl) rfl rfl rfl ?_
            refine o_unguard 131 rfl rfl ?_
            refine o_pure (p_eq (p := (Greedy.victim h)) (q := (h.things[Greedy.least h.things]).key) rfl rfl) rfl rfl rfl ?_
            refine o_pure (p_pick_true (u := .bool ((Greedy.victim h) == (h.things[Greedy.least h.things]).key)) rfl rfl) rfl rfl rfl ?_
            exact o_sub (Sub.cons rfl (Sub.skip rfl (Sub.skip rfl (Sub.skip rfl (Sub.skip rfl (Sub.skip rfl (Sub.refl _))))))) hk
          · intro hb63 hk
            refine o_guard_no rfl 131 rfl rfl rfl rfl rfl ?_
            refine o_guard_no rfl 131 rfl rfl rfl rfl rfl ?_
            refine o_guard_no rfl 131 rfl rfl rfl rfl rfl ?_
            refine o_pure (p_pick_false (v := .bool false) rfl rfl) rfl rfl rfl ?_
            exact o_sub (Sub.cons rfl (Sub.skip rfl (Sub.skip rfl (Sub.skip rfl (Sub.skip rfl (Sub.skip rfl (Sub.refl _))))))) hk
          refine o_pure (p_move (v := .bool ((((((((((Greedy.check h) == (Greedy.check h)) && (decide (((Greedy.access h t).1) = ((Greedy.touch h t).1)))) && (((Greedy.access h t).2.1) == ((Greedy.touch h t).2.1))) && (Ref.sameInts ((Greedy.access h t).2.2) ((Greedy.touch h t).2.2))) && ((Greedy.accessErr h t) == (Greedy.check h))) && (((Greedy.total h).1) == (Greedy.sizes h.things))) && (((Greedy.total h).2) == costs)) && ((Greedy.check h) == (Greedy.check h))) && ((Greedy.victim h) == (h.things[Greedy.least h.things]).key))) rfl) rfl rfl rfl ?_
          refine o_and (p := 140) 4 ((Greedy.victimErr h) == (Greedy.check h)) ?_ ?_ ?_
          · intro hb64 hk
            simp only [Bool.and_eq_true, beq_iff_eq, decide_eq_true_eq] at hb64
            refine o_unguard 136 rfl rfl ?_
            refine o_pure (p_move (v := .int .i64 (Greedy.victimErr h)) rfl) rfl rfl rfl ?_
            refine o_unguard 136 rfl rfl ?_
            refine o_pure (p_move (v := .int .i64 (Greedy.check h)) rfl) rfl rfl rfl ?_
            refine o_unguard 136 rfl rfl ?_
            refine o_pure (p_eq (p := (Greedy.victimErr h)) (q := (Greedy.check h)) rfl rfl) rfl rfl rfl ?_
            refine o_pure (p_pick_true (u := .bool ((Greedy.victimErr h) == (Greedy.check h))) rfl rfl) rfl rfl rfl ?_
            exact o_sub (Sub.cons rfl (Sub.skip rfl (Sub.skip rfl (Sub.skip rfl (Sub.skip rfl (Sub.skip rfl (Sub.refl _))))))) hk
          · intro hb64 hk
            refine o_guard_no rfl 136 rfl rfl rfl rfl rfl ?_
            refine o_guard_no rfl 136 rfl rfl rfl rfl rfl ?_
            refine o_guard_no rfl 136 rfl rfl rfl rfl rfl ?_
            refine o_pure (p_pick_false (v := .bool false) rfl rfl) rfl rfl rfl ?_
            exact o_sub (Sub.cons rfl (Sub.skip rfl (Sub.skip rfl (Sub.skip rfl (Sub.skip rfl (Sub.skip rfl (Sub.refl _))))))) hk
          refine o_pure (p_assign (v := .bool (((((((((((Greedy.check h) == (Greedy.check h)) && (decide (((Greedy.access h t).1) = ((Greedy.touch h t).1)))) && (((Greedy.access h t).2.1) == ((Greedy.touch h t).2.1))) && (Ref.sameInts ((Greedy.access h t).2.2) ((Greedy.touch h t).2.2))) && ((Greedy.accessErr h t) == (Greedy.check h))) && (((Greedy.total h).1) == (Greedy.sizes h.things))) && (((Greedy.total h).2) == costs)) && ((Greedy.check h) == (Greedy.check h))) && ((Greedy.victim h) == (h.things[Greedy.least h.things]).key)) && ((Greedy.victimErr h) == (Greedy.check h)))) rfl) rfl rfl rfl ?_
          refine o_nil ?_
          refine q_then ?_
          refine c_ret ?_
          have hr0 : ((((((((((((Greedy.check h) == (Greedy.check h)) && (decide (((Greedy.access h t).1) = ((Greedy.touch h t).1)))) && (((Greedy.access h t).2.1) == ((Greedy.touch h t).2.1))) && (Ref.sameInts ((Greedy.access h t).2.2) ((Greedy.touch h t).2.2))) && ((Greedy.accessErr h t) == (Greedy.check h))) && (((Greedy.total h).1) == (Greedy.sizes h.things))) && (((Greedy.total h).2) == costs)) && ((Greedy.check h) == (Greedy.check h))) && ((Greedy.victim h) == (h.things[Greedy.least h.things]).key)) && ((Greedy.victimErr h) == (Greedy.check h))) : Bool) = true := by
            first
              | (have ha := Greedy.acc1 (h := h) (t := t) (by assumption); have ht := Greedy.tot_bad (h := h) (by assumption); have hv := Greedy.vic_bad (h := h) (by assumption); simp [ha.1, ha.2, hv.1, hv.2, ht, Ref.sameInts, Greedy.zero, *]; done)
              | (have ha := Greedy.acc2 (h := h) (t := t) ⟨by assumption, by assumption⟩; have ht := Greedy.tot_ok (h := h) (by assumption); have hv := Greedy.vic_none (h := h) ⟨by assumption, by assumption⟩; simp [ha.1, ha.2, hv.1, hv.2, ht, Ref.sameInts, Greedy.zero, hcs]; done)
              | (have ha := Greedy.acc2 (h := h) (t := t) ⟨by assumption, by assumption⟩; have ht := Greedy.tot_ok (h := h) (by assumption); have hv := Greedy.vic_ok (h := h) (by assumption) hll; have hce : Greedy.check h = 0 := (by assumption); simp [ha.1, ha.2, hv.1, hv.2, ht, Ref.sameInts, Greedy.zero, hcs, hce]; done)
              | (have ha := Greedy.acc3 (h := h) (t := t) (by assumption) hrt; have ht := Greedy.tot_ok (h := h) (by assumption); have hv := Greedy.vic_none (h := h) ⟨by assumption, by assumption⟩; have hce : Greedy.check h = 0 := (by assumption); simp [ha.1, ha.2, hv.1, hv.2, ht, Ref.sameInts, Greedy.zero, hcs, hce]; done)
              | (have ha := Greedy.acc3 (h := h) (t := t) (by assumption) hrt; have ht := Greedy.tot_ok (h := h) (by assumption); have hv := Greedy.vic_ok (h := h) (by assumption) hll; have hce : Greedy.check h = 0 := (by assumption); simp [ha.1, ha.2, hv.1, hv.2, ht, Ref.sameInts, Greedy.zero, hcs, hce]; done)
          refine q_end0 (v := .bool (((((((((((Greedy.check h) == (Greedy.check h)) && (decide (((Greedy.access h t).1) = ((Greedy.touch h t).1)))) && (((Greedy.access h t).2.1) == ((Greedy.touch h t).2.1))) && (Ref.sameInts ((Greedy.access h t).2.2) ((Greedy.touch h t).2.2))) && ((Greedy.accessErr h t) == (Greedy.check h))) && (((Greedy.total h).1) == (Greedy.sizes h.things))) && (((Greedy.total h).2) == costs)) && ((Greedy.check h) == (Greedy.check h))) && ((Greedy.victim h) == (h.things[Greedy.least h.things]).key)) && ((Greedy.victimErr h) == (Greedy.check h)))) (rt1 rfl (r_tmp rfl)) (i := 6) rfl ?_
          exact (by have hcc := congrArg (fun (y0 : Bool) => (.bool y0 : Value)) hr0; exact hcc)
  · simp only [beq_eq_false_iff_ne, ne_eq] at hc13
    refine c_skip ?_
    refine q_then ?_
    refine c_seq ?_
    refine c_region ?_
    refine o_call0 (v := .bool true) rfl (hoardBegun_ok ) hf32 (fun _ _ => trivial) rfl ?_
    refine o_pure (p_move (v := .bool true) rfl) rfl rfl rfl ?_
    refine o_unguard 90 rfl rfl ?_
    refine o_pure (p_load_agg (i := 4) (vs := [.int .i64 h.room, .int .i64 h.floor, .slice ah_0 h.things.length ch_0]) rfl rfl sh39 rfl rfl) rfl rfl rfl ?_
    refine o_unguard 90 rfl rfl ?_
    refine o_call0 (v := .int .i64 (Greedy.check h)) rfl (gcheck_ok h ah_0 ch_0) hf33 (fun w hw => (rd_base (i := 5) rfl hh_0) w hw) rfl ?_
    refine o_unguard 90 rfl rfl ?_
    refine o_pure (p_move (v := .int .i64 (Greedy.check h)) rfl) rfl rfl rfl ?_
    refine o_unguard 90 rfl rfl ?_
    refine o_pure (p_eq (p := (Greedy.check h)) (q := (Greedy.check h)) rfl rfl) rfl rfl rfl ?_
    refine o_pure (p_pick_true (u := .bool ((Greedy.check h) == (Greedy.check h))) rfl rfl) rfl rfl rfl ?_
    refine o_pure (p_move (v := .bool ((Greedy.check h) == (Greedy.check h))) rfl) rfl rfl rfl ?_
    refine o_and (p := 100) 4 (decide (((Greedy.access h t).1) = (⟨0, 0, []⟩ : DGreedy))) ?_ ?_ ?_
    · intro hb65 hk
      simp only [beq_iff_eq] at hb65
      refine o_unguard 96 rfl rfl ?_
      refine o_pure (p_load_agg (i := 1) (vs := [.int .i64 (((Greedy.access h t).1).room), .int .i64 (((Greedy.access h t).1).floor), .slice a5 (((Greedy.access h t).1).things).length c6]) rfl rfl sh39 rfl rfl) rfl rfl rfl ?_
      refine o_unguard 96 rfl rfl ?_
      refine o_pure (p_load_agg (i := 0) (vs := [.int .i64 0, .int .i64 0, .slice none 0 0]) rfl rfl sh39 rfl rfl) rfl rfl rfl ?_
      refine o_unguard 96 rfl rfl ?_
      refine o_call0 (v := .bool (decide (((Greedy.access h t).1) = (⟨0, 0, []⟩ : DGreedy)))) rfl (sameHoard_ok ((Greedy.access h t).1) a5 c6 (⟨0, 0, []⟩ : DGreedy) none 0) hf34 (fun w hw => ⟨(rd_ent (i := 2) rfl (fun w h => h.1)) w hw, rd_nil w hw⟩) rfl ?_
      refine o_pure (p_pick_true (u := .bool (decide (((Greedy.access h t).1) = (⟨0, 0, []⟩ : DGreedy)))) rfl rfl) rfl rfl rfl ?_
      exact o_sub (Sub.cons rfl (Sub.skip rfl (Sub.skip rfl (Sub.skip rfl (Sub.skip rfl (Sub.skip rfl (Sub.refl _))))))) hk
    · intro hb65 hk
      refine o_guard_no rfl 96 rfl rfl rfl rfl rfl ?_
      refine o_guard_no rfl 96 rfl rfl rfl rfl rfl ?_
      refine o_guard_no rfl 96 rfl rfl rfl rfl rfl ?_
      refine o_pure (p_pick_false (v := .bool false) rfl rfl) rfl rfl rfl ?_
      exact o_sub (Sub.cons rfl (Sub.skip rfl (Sub.skip rfl (Sub.skip rfl (Sub.skip rfl (Sub.skip rfl (Sub.refl _))))))) hk
    refine o_pure (p_move (v := .bool (((Greedy.check h) == (Greedy.check h)) && (decide (((Greedy.access h t).1) = (⟨0, 0, []⟩ : DGreedy))))) rfl) rfl rfl rfl ?_
    refine o_and (p := 105) 4 (((Greedy.access h t).2.1) == false) ?_ ?_ ?_
    · intro hb66 hk
      simp only [Bool.and_eq_true, beq_iff_eq, decide_eq_true_eq] at hb66
      refine o_unguard 101 rfl rfl ?_
      refine o_pure (p_move (v := .bool ((Greedy.access h t).2.1)) rfl) rfl rfl rfl ?_
      refine o_unguard 101 rfl rfl ?_
      refine o_pure (p_move (v := .bool false) rfl) rfl rfl rfl ?_
      refine o_unguard 101 rfl rfl ?_
      refine o_pure (p_eqBool (b := ((Greedy.access h t).2.1)) (c := false) rfl rfl Try.underlying4) rfl rfl rfl ?_
      refine o_pure (p_pick_true (u := .bool (((Greedy.access h t).2.1) == false)) rfl rfl) rfl rfl rfl ?_
      exact o_sub (Sub.cons rfl (Sub.skip rfl (Sub.skip rfl (Sub.skip rfl (Sub.skip rfl (Sub.skip rfl (Sub.refl _))))))) hk
    · intro hb66 hk
      refine o_guard_no rfl 101 rfl rfl rfl rfl rfl ?_
      refine o_guard_no rfl 101 rfl rfl rfl rfl rfl ?_
      refine o_guard_no rfl 101 rfl rfl rfl rfl rfl ?_
      refine o_pure (p_pick_false (v := .bool false) rfl rfl) rfl rfl rfl ?_
      exact o_sub (Sub.cons rfl (Sub.skip rfl (Sub.skip rfl (Sub.skip rfl (Sub.skip rfl (Sub.skip rfl (Sub.refl _))))))) hk
    refine o_pure (p_move (v := .bool ((((Greedy.check h) == (Greedy.check h)) && (decide (((Greedy.access h t).1) = (⟨0, 0, []⟩ : DGreedy)))) && (((Greedy.access h t).2.1) == false))) rfl) rfl rfl rfl ?_
    refine o_and (p := 110) 4 (Ref.sameInts ((Greedy.access h t).2.2) []) ?_ ?_ ?_
    · intro hb67 hk
      simp only [Bool.and_eq_true, beq_iff_eq, decide_eq_true_eq] at hb67
      refine o_unguard 106 rfl rfl ?_
      refine o_pure (p_move (v := .slice a7 ((Greedy.access h t).2.2).length c8) rfl) rfl rfl rfl ?_
      refine o_unguard 106 rfl rfl ?_
      refine o_pure (p_move (v := .slice none 0 0) rfl) rfl rfl rfl ?_
      refine o_unguard 106 rfl rfl ?_
      refine o_call0 (v := .bool (Ref.sameInts ((Greedy.access h t).2.2) [])) rfl (sameInts_ok ((Greedy.access h t).2.2) a7 c8 [] none 0) hf22 (fun w hw => ⟨(rd_ent (i := 2) rfl (fun w h => h.2)) w hw, rd_nil w hw⟩) rfl ?_
      refine o_pure (p_pick_true (u := .bool (Ref.sameInts ((Greedy.access h t).2.2) [])) rfl rfl) rfl rfl rfl ?_
      exact o_sub (Sub.cons rfl (Sub.skip rfl (Sub.skip rfl (Sub.skip rfl (Sub.skip rfl (Sub.skip rfl (Sub.refl _))))))) hk
    · intro hb67 hk
      refine o_guard_no rfl 106 rfl rfl rfl rfl rfl ?_
      refine o_guard_no rfl 106 rfl rfl rfl rfl rfl ?_
      refine o_guard_no rfl 106 rfl rfl rfl rfl rfl ?_
      refine o_pure (p_pick_false (v := .bool false) rfl rfl) rfl rfl rfl ?_
      exact o_sub (Sub.cons rfl (Sub.skip rfl (Sub.skip rfl (Sub.skip rfl (Sub.skip rfl (Sub.skip rfl (Sub.refl _))))))) hk
    refine o_pure (p_move (v := .bool (((((Greedy.check h) == (Greedy.check h)) && (decide (((Greedy.access h t).1) = (⟨0, 0, []⟩ : DGreedy)))) && (((Greedy.access h t).2.1) == false)) && (Ref.sameInts ((Greedy.access h t).2.2) []))) rfl) rfl rfl rfl ?_
    refine o_and (p := 115) 4 ((Greedy.accessErr h t) == (Greedy.check h)) ?_ ?_ ?_
    · intro hb68 hk
      simp only [Bool.and_eq_true, beq_iff_eq, decide_eq_true_eq] at hb68
      refine o_unguard 111 rfl rfl ?_
      refine o_pure (p_move (v := .int .i64 (Greedy.accessErr h t)) rfl) rfl rfl rfl ?_
      refine o_unguard 111 rfl rfl ?_
      refine o_pure (p_move (v := .int .i64 (Greedy.check h)) rfl) rfl rfl rfl ?_
      refine o_unguard 111 rfl rfl ?_
      refine o_pure (p_eq (p := (Greedy.accessErr h t)) (q := (Greedy.check h)) rfl rfl) rfl rfl rfl ?_
      refine o_pure (p_pick_true (u := .bool ((Greedy.accessErr h t) == (Greedy.check h))) rfl rfl) rfl rfl rfl ?_
      exact o_sub (Sub.cons rfl (Sub.skip rfl (Sub.skip rfl (Sub.skip rfl (Sub.skip rfl (Sub.skip rfl (Sub.refl _))))))) hk
    · intro hb68 hk
      refine o_guard_no rfl 111 rfl rfl rfl rfl rfl ?_
      refine o_guard_no rfl 111 rfl rfl rfl rfl rfl ?_
      refine o_guard_no rfl 111 rfl rfl rfl rfl rfl ?_
      refine o_pure (p_pick_false (v := .bool false) rfl rfl) rfl rfl rfl ?_
      exact o_sub (Sub.cons rfl (Sub.skip rfl (Sub.skip rfl (Sub.skip rfl (Sub.skip rfl (Sub.skip rfl (Sub.refl _))))))) hk
    refine o_pure (p_move (v := .bool ((((((Greedy.check h) == (Greedy.check h)) && (decide (((Greedy.access h t).1) = (⟨0, 0, []⟩ : DGreedy)))) && (((Greedy.access h t).2.1) == false)) && (Ref.sameInts ((Greedy.access h t).2.2) [])) && ((Greedy.accessErr h t) == (Greedy.check h)))) rfl) rfl rfl rfl ?_
    refine o_and (p := 120) 4 (((Greedy.total h).1) == 0) ?_ ?_ ?_
    · intro hb69 hk
      simp only [Bool.and_eq_true, beq_iff_eq, decide_eq_true_eq] at hb69
      refine o_unguard 116 rfl rfl ?_
      refine o_pure (p_move (v := .int .i64 ((Greedy.total h).1)) rfl) rfl rfl rfl ?_
      refine o_unguard 116 rfl rfl ?_
      refine o_pure (p_move (v := .int .i64 0) rfl) rfl rfl rfl ?_
      refine o_unguard 116 rfl rfl ?_
      refine o_pure (p_eq (p := ((Greedy.total h).1)) (q := 0) rfl rfl) rfl rfl rfl ?_
      refine o_pure (p_pick_true (u := .bool (((Greedy.total h).1) == 0)) rfl rfl) rfl rfl rfl ?_
      exact o_sub (Sub.cons rfl (Sub.skip rfl (Sub.skip rfl (Sub.skip rfl (Sub.skip rfl (Sub.skip rfl (Sub.refl _))))))) hk
    · intro hb69 hk
      refine o_guard_no rfl 116 rfl rfl rfl rfl rfl ?_
      refine o_guard_no rfl 116 rfl rfl rfl rfl rfl ?_
      refine o_guard_no rfl 116 rfl rfl rfl rfl rfl ?_
      refine o_pure (p_pick_false (v := .bool false) rfl rfl) rfl rfl rfl ?_
      exact o_sub (Sub.cons rfl (Sub.skip rfl (Sub.skip rfl (Sub.skip rfl (Sub.skip rfl (Sub.skip rfl (Sub.refl _))))))) hk
    refine o_pure (p_move (v := .bool (((((((Greedy.check h) == (Greedy.check h)) && (decide (((Greedy.access h t).1) = (⟨0, 0, []⟩ : DGreedy)))) && (((Greedy.access h t).2.1) == false)) && (Ref.sameInts ((Greedy.access h t).2.2) [])) && ((Greedy.accessErr h t) == (Greedy.check h))) && (((Greedy.total h).1) == 0))) rfl) rfl rfl rfl ?_
    refine o_and (p := 125) 4 (((Greedy.total h).2) == 0) ?_ ?_ ?_
    · intro hb70 hk
      simp only [Bool.and_eq_true, beq_iff_eq, decide_eq_true_eq] at hb70
      refine o_unguard 121 rfl rfl ?_
      refine o_pure (p_move (v := .int .i64 ((Greedy.total h).2)) rfl) rfl rfl rfl ?_
      refine o_unguard 121 rfl rfl ?_
      refine o_pure (p_move (v := .int .i64 0) rfl) rfl rfl rfl ?_
      refine o_unguard 121 rfl rfl ?_
      refine o_pure (p_eq (p := ((Greedy.total h).2)) (q := 0) rfl rfl) rfl rfl rfl ?_
      refine o_pure (p_pick_true (u := .bool (((Greedy.total h).2) == 0)) rfl rfl) rfl rfl rfl ?_
      exact o_sub (Sub.cons rfl (Sub.skip rfl (Sub.skip rfl (Sub.skip rfl (Sub.skip rfl (Sub.skip rfl (Sub.refl _))))))) hk
    · intro hb70 hk
      refine o_guard_no rfl 121 rfl rfl rfl rfl rfl ?_
      refine o_guard_no rfl 121 rfl rfl rfl rfl rfl ?_
      refine o_guard_no rfl 121 rfl rfl rfl rfl rfl ?_
      refine o_pure (p_pick_false (v := .bool false) rfl rfl) rfl rfl rfl ?_
      exact o_sub (Sub.cons rfl (Sub.skip rfl (Sub.skip rfl (Sub.skip rfl (Sub.skip rfl (Sub.skip rfl (Sub.refl _))))))) hk
    refine o_pure (p_move (v := .bool ((((((((Greedy.check h) == (Greedy.check h)) && (decide (((Greedy.access h t).1) = (⟨0, 0, []⟩ : DGreedy)))) && (((Greedy.access h t).2.1) == false)) && (Ref.sameInts ((Greedy.access h t).2.2) [])) && ((Greedy.accessErr h t) == (Greedy.check h))) && (((Greedy.total h).1) == 0)) && (((Greedy.total h).2) == 0))) rfl) rfl rfl rfl ?_
    refine o_and (p := 130) 4 ((Greedy.check h) == (Greedy.check h)) ?_ ?_ ?_
    · intro hb71 hk
      simp only [Bool.and_eq_true, beq_iff_eq, decide_eq_true_eq] at hb71
      refine o_unguard 126 rfl rfl ?_
      refine o_pure (p_move (v := .int .i64 (Greedy.check h)) rfl) rfl rfl rfl ?_
      refine o_unguard 126 rfl rfl ?_
      refine o_pure (p_move (v := .int .i64 (Greedy.check h)) rfl) rfl rfl rfl ?_
      refine o_unguard 126 rfl rfl ?_
      refine o_pure (p_eq (p := (Greedy.check h)) (q := (Greedy.check h)) rfl rfl) rfl rfl rfl ?_
      refine o_pure (p_pick_true (u := .bool ((Greedy.check h) == (Greedy.check h))) rfl rfl) rfl rfl rfl ?_
      exact o_sub (Sub.cons rfl (Sub.skip rfl (Sub.skip rfl (Sub.skip rfl (Sub.skip rfl (Sub.skip rfl (Sub.refl _))))))) hk
    · intro hb71 hk
      refine o_guard_no rfl 126 rfl rfl rfl rfl rfl ?_
      refine o_guard_no rfl 126 rfl rfl rfl rfl rfl ?_
      refine o_guard_no rfl 126 rfl rfl rfl rfl rfl ?_
      refine o_pure (p_pick_false (v := .bool false) rfl rfl) rfl rfl rfl ?_
      exact o_sub (Sub.cons rfl (Sub.skip rfl (Sub.skip rfl (Sub.skip rfl (Sub.skip rfl (Sub.skip rfl (Sub.refl _))))))) hk
    refine o_pure (p_move (v := .bool (((((((((Greedy.check h) == (Greedy.check h)) && (decide (((Greedy.access h t).1) = (⟨0, 0, []⟩ : DGreedy)))) && (((Greedy.access h t).2.1) == false)) && (Ref.sameInts ((Greedy.access h t).2.2) [])) && ((Greedy.accessErr h t) == (Greedy.check h))) && (((Greedy.total h).1) == 0)) && (((Greedy.total h).2) == 0)) && ((Greedy.check h) == (Greedy.check h)))) rfl) rfl rfl rfl ?_
    refine o_and (p := 135) 4 ((Greedy.victim h) == 0) ?_ ?_ ?_
    · intro hb72 hk
      simp only [Bool.and_eq_true, beq_iff_eq, decide_eq_true_eq] at hb72
      refine o_unguard 131 rfl rfl ?_
      refine o_pure (p_move (v := .int .i64 (Greedy.victim h)) rfl) rfl rfl rfl ?_
      refine o_unguard 131 rfl rfl ?_
      refine o_pure (p_move (v := .int .i64 0) rfl) rfl rfl rfl ?_
      refine o_unguard 131 rfl rfl ?_
      refine o_pure (p_eq (p := (Greedy.victim h)) (q := 0) rfl rfl) rfl rfl rfl ?_
      refine o_pure (p_pick_true (u := .bool ((Greedy.victim h) == 0)) rfl rfl) rfl rfl rfl ?_
      exact o_sub (Sub.cons rfl (Sub.skip rfl (Sub.skip rfl (Sub.skip rfl (Sub.skip rfl (Sub.skip rfl (Sub.refl _))))))) hk
    · intro hb72 hk
      refine o_guard_no rfl 131 rfl rfl rfl rfl rfl ?_
      refine o_guard_no rfl 131 rfl rfl rfl rfl rfl ?_
      refine o_guard_no rfl 131 rfl rfl rfl rfl rfl ?_
      refine o_pure (p_pick_false (v := .bool false) rfl rfl) rfl rfl rfl ?_
      exact o_sub (Sub.cons rfl (Sub.skip rfl (Sub.skip rfl (Sub.skip rfl (Sub.skip rfl (Sub.skip rfl (Sub.refl _))))))) hk
    refine o_pure (p_move (v := .bool ((((((((((Greedy.check h) == (Greedy.check h)) && (decide (((Greedy.access h t).1) = (⟨0, 0, []⟩ : DGreedy)))) && (((Greedy.access h t).2.1) == false)) && (Ref.sameInts ((Greedy.access h t).2.2) [])) && ((Greedy.accessErr h t) == (Greedy.check h))) && (((Greedy.total h).1) == 0)) && (((Greedy.total h).2) == 0)) && ((Greedy.check h) == (Greedy.check h))) && ((Greedy.victim h) == 0))) rfl) rfl rfl rfl ?_
    refine o_and (p := 140) 4 ((Greedy.victimErr h) == (Greedy.check h)) ?_ ?_ ?_
    · intro hb73 hk
      simp only [Bool.and_eq_true, beq_iff_eq, decide_eq_true_eq] at hb73
      refine o_unguard 136 rfl rfl ?_
      refine o_pure (p_move (v := .int .i64 (Greedy.victimErr h)) rfl) rfl rfl rfl ?_
      refine o_unguard 136 rfl rfl ?_
      refine o_pure (p_move (v := .int .i64 (Greedy.check h)) rfl) rfl rfl rfl ?_
      refine o_unguard 136 rfl rfl ?_
      refine o_pure (p_eq (p := (Greedy.victimErr h)) (q := (Greedy.check h)) rfl rfl) rfl rfl rfl ?_
      refine o_pure (p_pick_true (u := .bool ((Greedy.victimErr h) == (Greedy.check h))) rfl rfl) rfl rfl rfl ?_
      exact o_sub (Sub.cons rfl (Sub.skip rfl (Sub.skip rfl (Sub.skip rfl (Sub.skip rfl (Sub.skip rfl (Sub.refl _))))))) hk
    · intro hb73 hk
      refine o_guard_no rfl 136 rfl rfl rfl rfl rfl ?_
      refine o_guard_no rfl 136 rfl rfl rfl rfl rfl ?_
      refine o_guard_no rfl 136 rfl rfl rfl rfl rfl ?_
      refine o_pure (p_pick_false (v := .bool false) rfl rfl) rfl rfl rfl ?_
      exact o_sub (Sub.cons rfl (Sub.skip rfl (Sub.skip rfl (Sub.skip rfl (Sub.skip rfl (Sub.skip rfl (Sub.refl _))))))) hk
    refine o_pure (p_assign (v := .bool (((((((((((Greedy.check h) == (Greedy.check h)) && (decide (((Greedy.access h t).1) = (⟨0, 0, []⟩ : DGreedy)))) && (((Greedy.access h t).2.1) == false)) && (Ref.sameInts ((Greedy.access h t).2.2) [])) && ((Greedy.accessErr h t) == (Greedy.check h))) && (((Greedy.total h).1) == 0)) && (((Greedy.total h).2) == 0)) && ((Greedy.check h) == (Greedy.check h))) && ((Greedy.victim h) == 0)) && ((Greedy.victimErr h) == (Greedy.check h)))) rfl) rfl rfl rfl ?_
    refine o_nil ?_
    refine q_then ?_
    refine c_ret ?_
    have hr0 : ((((((((((((Greedy.check h) == (Greedy.check h)) && (decide (((Greedy.access h t).1) = (⟨0, 0, []⟩ : DGreedy)))) && (((Greedy.access h t).2.1) == false)) && (Ref.sameInts ((Greedy.access h t).2.2) [])) && ((Greedy.accessErr h t) == (Greedy.check h))) && (((Greedy.total h).1) == 0)) && (((Greedy.total h).2) == 0)) && ((Greedy.check h) == (Greedy.check h))) && ((Greedy.victim h) == 0)) && ((Greedy.victimErr h) == (Greedy.check h))) : Bool) = true := by
      first
        | (have ha := Greedy.acc1 (h := h) (t := t) (by assumption); have ht := Greedy.tot_bad (h := h) (by assumption); have hv := Greedy.vic_bad (h := h) (by assumption); simp [ha.1, ha.2, hv.1, hv.2, ht, Ref.sameInts, Greedy.zero, *]; done)
        | (have ha := Greedy.acc2 (h := h) (t := t) ⟨by assumption, by assumption⟩; have ht := Greedy.tot_ok (h := h) (by assumption); have hv := Greedy.vic_none (h := h) ⟨by assumption, by assumption⟩; simp [ha.1, ha.2, hv.1, hv.2, ht, Ref.sameInts, Greedy.zero, hcs]; done)
        | (have ha := Greedy.acc2 (h := h) (t := t) ⟨by assumption, by assumption⟩; have ht := Greedy.tot_ok (h := h) (by assumption); have hv := Greedy.vic_ok (h := h) (by assumption) hll; have hce : Greedy.check h = 0 := (by assumption); simp [ha.1, ha.2, hv.1, hv.2, ht, Ref.sameInts, Greedy.zero, hcs, hce]; done)
        | (have ha := Greedy.acc3 (h := h) (t := t) (by assumption) hrt; have ht := Greedy.tot_ok (h := h) (by assumption); have hv := Greedy.vic_none (h := h) ⟨by assumption, by assumption⟩; have hce : Greedy.check h = 0 := (by assumption); simp [ha.1, ha.2, hv.1, hv.2, ht, Ref.sameInts, Greedy.zero, hcs, hce]; done)
        | (have ha := Greedy.acc3 (h := h) (t := t) (by assumption) hrt; have ht := Greedy.tot_ok (h := h) (by assumption); have hv := Greedy.vic_ok (h := h) (by assumption) hll; have hce : Greedy.check h = 0 := (by assumption); simp [ha.1, ha.2, hv.1, hv.2, ht, Ref.sameInts, Greedy.zero, hcs, hce]; done)
    refine q_end0 (v := .bool (((((((((((Greedy.check h) == (Greedy.check h)) && (decide (((Greedy.access h t).1) = (⟨0, 0, []⟩ : DGreedy)))) && (((Greedy.access h t).2.1) == false)) && (Ref.sameInts ((Greedy.access h t).2.2) [])) && ((Greedy.accessErr h t) == (Greedy.check h))) && (((Greedy.total h).1) == 0)) && (((Greedy.total h).2) == 0)) && ((Greedy.check h) == (Greedy.check h))) && ((Greedy.victim h) == 0)) && ((Greedy.victimErr h) == (Greedy.check h)))) (rt1 rfl (r_tmp rfl)) (i := 5) rfl ?_
    exact (by have hcc := congrArg (fun (y0 : Bool) => (.bool y0 : Value)) hr0; exact hcc)
end Go.Proofs.Ythbfdhphnofacab
