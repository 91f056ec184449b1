/- The walks, printed by a program from the translation and a specification. -/
import Derived.Test.YtkndekkacimekaaExF
import Derived.Test.YtkndekkacimekaaExLaw2
import Derived.Test.YtkndekkacimekaaExW9
namespace Go.Proofs.Ytkndekkacimekaa
open Go.Sx Go.RowKit
set_option maxHeartbeats 8000000 in
set_option maxRecDepth 100000 in
theorem lastGet_ok (s : DStore) (as_0 : Option Addr) (cs_0 : Nat) (key : Int) (now : Int) (hy1 : Exp.Ok s) : Fn0 Try.prog 22 [.agg #[.int .i64 s.life, .slice as_0 s.entries.length cs_0], .int .i64 key, .int .i64 now] (fun w => Rd tEntry w as_0 cs_0 s.entries) (.tuple #[.int .i64 ((Exp.getGo s.entries key now).1), .bool ((Exp.getGo s.entries key now).2)]) := by
  refine fn0 (nt := 38) (F0 := [(0, .agg #[.int .i64 s.life, .slice as_0 s.entries.length cs_0]), (1, .int .i64 key), (2, .int .i64 now)]) Try.func22 rfl Try.ntmps22 rfl rfl (fun w0 hpre => ?_)
  have hs_0 := hpre
  have hlhs_0 := hs_0.2.1
  have hlen := hy1.len
  refine c_seq ?_
  refine c_region ?_
  refine o_box (v := .agg #[.int .i64 s.life, .slice as_0 s.entries.length cs_0]) rfl rfl (fun B1 => ?_)
  refine o_pure (p_assign (v := .int .i64 0) rfl) rfl rfl rfl ?_
  refine o_pure (p_assign (v := .bool false) rfl) rfl rfl rfl ?_
  refine o_nil ?_
  refine q_then ?_
  refine c_seq ?_
  refine c_region ?_
  refine o_pure (p_load_agg (i := 0) (vs := [.int .i64 s.life, .slice as_0 s.entries.length cs_0]) rfl rfl sh24 rfl rfl) rfl rfl rfl ?_
  refine o_pure (p_move (v := .int .i64 now) rfl) rfl rfl rfl ?_
  refine o_callM rfl (lastSweep_ok s as_0 cs_0 now (by omega)) hf21 (fun w hw => (rd_base (i := 1) rfl hs_0) w hw) rfl (fun _ _ _ _ ha hA => ⟨SlR.agree ha hA.1, SlR.agree ha hA.2⟩) ?_
  rintro ⟨a4, c5, a6, c7⟩ S2
  refine o_know (fun w hw => (hw.at (i := 0) rfl).here.1.2.1) (fun hlr8 => ?_)
  refine o_know (fun w hw => (hw.at (i := 0) rfl).here.2.2.1) (fun hlr9 => ?_)
  refine o_pure (p_move (v := .tuple #[.agg #[.int .i64 s.life, .slice a4 (Exp.live now s.entries).length c5], .slice a6 (Exp.over now s.entries).length c7]) rfl) rfl rfl rfl ?_
  refine o_pure (p_extract (vs := [.agg #[.int .i64 s.life, .slice a4 (Exp.live now s.entries).length c5], .slice a6 (Exp.over now s.entries).length c7]) (v := .agg #[.int .i64 s.life, .slice a4 (Exp.live now s.entries).length c5]) rfl rfl) rfl rfl rfl ?_
  refine o_pure (p_extract (vs := [.agg #[.int .i64 s.life, .slice a4 (Exp.live now s.entries).length c5], .slice a6 (Exp.over now s.entries).length c7]) (v := .slice a6 (Exp.over now s.entries).length c7) rfl rfl) rfl rfl rfl ?_
  refine o_alloc ze24 rfl (fun B10 => ?_)
  refine o_storeN (i := 0) (vs := [.int .i64 s.life, .slice a4 (Exp.live now s.entries).length c5]) (cs' := [.int .i64 s.life, .slice a4 (Exp.live now s.entries).length c5]) rfl rfl rfl sz24 rfl rfl rfl rfl ?_
  refine o_pure (p_assign (v := .slice a6 (Exp.over now s.entries).length c7) rfl) rfl rfl rfl ?_
  refine o_nil ?_
  refine q_then ?_
  refine c_seq ?_
  refine c_seq ?_
  refine c_region ?_
  refine o_pure (p_assign (v := .int .i64 0) rfl) rfl rfl rfl ?_
  refine o_nil ?_
  refine q_then ?_
  refine c_block ?_
  refine c_loop (St := Nat)
    (fun i => [(1, .int .i64 key), (8, .pointer (some ⟨B10, 0, none⟩)), (10, .int .i64 (i : Int))])
    (fun i => [box B10 [.int .i64 s.life, .slice a4 (Exp.live now s.entries).length c5] 24, ⟨S2, fun w => SlR tEntry S2 w a4 c5 (Exp.live now s.entries) ∧ SlR tInt S2 w a6 c7 (Exp.over now s.entries)⟩, box B1 [.int .i64 s.life, .slice as_0 s.entries.length cs_0] 24, base w0])
    (fun i => Exp.GtI (Exp.live now s.entries) key i)
    (fun i => (Exp.live now s.entries).length - i)
    0 ?_ (Sub.cons rfl (Sub.cons rfl (Sub.cons rfl (Sub.nil _)))) (fun _ hw => hw) ?_
  · exact Exp.GtI.start _ _
  rintro i hI K hK11
  show SC _ _ Try.prog 38 w0 _ _ [(1, .int .i64 key), (8, .pointer (some ⟨B10, 0, none⟩)), (10, .int .i64 (i : Int))] [box B10 [.int .i64 s.life, .slice a4 (Exp.live now s.entries).length c5] 24, ⟨S2, fun w => SlR tEntry S2 w a4 c5 (Exp.live now s.entries) ∧ SlR tInt S2 w a6 c7 (Exp.over now s.entries)⟩, box B1 [.int .i64 s.life, .slice as_0 s.entries.length cs_0] 24, base w0]
  refine c_seq ?_
  refine c_seq ?_
  refine c_region ?_
  refine o_pure (p_move (v := .int .i64 (i : Int)) rfl) rfl rfl rfl ?_
  refine o_pure (p_fieldAddr (B := B10) (j := 0) (j' := 1) rfl fo24_1 rfl) rfl rfl rfl ?_
  refine o_pure (p_load (i := 0) (v := .slice a4 (Exp.live now s.entries).length c5) rfl rfl sh22 rfl) rfl rfl rfl ?_
  refine o_pure (p_len_slice (len := (Exp.live now s.entries).length) rfl rfl Try.underlying22) rfl rfl rfl ?_
  refine o_pure (p_lt (p := (i : Int)) (q := ((Exp.live now s.entries).length : Int)) rfl rfl) rfl rfl rfl ?_
  refine o_nil ?_
  refine q_then ?_
  refine c_cond (b := decide ((i : Int) < ((Exp.live now s.entries).length : Int))) rfl (fun hc12 => ?_) (fun hc12 => ?_)
  · simp only [decide_eq_true_eq] at hc12
    refine c_skip ?_
    refine q_then ?_
    refine c_seq ?_
    refine c_block ?_
    refine c_seq ?_
    refine c_region ?_
    refine o_pure (p_fieldAddr (B := B10) (j := 0) (j' := 1) rfl fo24_1 rfl) rfl rfl rfl ?_
    refine o_pure (p_load (i := 0) (v := .slice a4 (Exp.live now s.entries).length c5) rfl rfl sh22 rfl) rfl rfl rfl ?_
    refine o_pure (p_move (v := .int .i64 (i : Int)) rfl) rfl rfl rfl ?_
    refine o_pure (p_indexAddr (L := Exp.live now s.entries) (T := tEntry) (i := (i : Int)) rfl rfl (rd_ent (i := 1) rfl (fun w h => h.1)) Try.underlying22 sz42 (by omega) (by omega)) rfl rfl rfl ?_
    refine o_pure (p_fieldAddrE rfl fo42_0) rfl rfl rfl ?_
    refine o_pure (p_loadF (i := i) (j := 0) (T := tEntry) (L := Exp.live now s.entries) (v := .int .i64 (((Exp.live now s.entries)[i]).key)) rfl (rd_ent (i := 1) rfl (fun w h => h.1)) (by first | assumption | omega) sh3 rfl) rfl rfl rfl ?_
    refine o_pure (p_move (v := .int .i64 key) rfl) rfl rfl rfl ?_
    refine o_pure (p_eq (p := ((Exp.live now s.entries)[i]).key) (q := key) rfl rfl) rfl rfl rfl ?_
    refine o_nil ?_
    refine q_then ?_
    refine c_cond (b := (((Exp.live now s.entries)[i]).key == key)) rfl (fun hc13 => ?_) (fun hc13 => ?_)
    · simp only [beq_iff_eq] at hc13
      refine c_seq ?_
      refine c_region ?_
      refine o_pure (p_fieldAddr (B := B10) (j := 0) (j' := 1) rfl fo24_1 rfl) rfl rfl rfl ?_
      refine o_pure (p_load (i := 0) (v := .slice a4 (Exp.live now s.entries).length c5) rfl rfl sh22 rfl) rfl rfl rfl ?_
      refine o_pure (p_move (v := .int .i64 (i : Int)) rfl) rfl rfl rfl ?_
      refine o_pure (p_indexAddr (L := Exp.live now s.entries) (T := tEntry) (i := (i : Int)) rfl rfl (rd_ent (i := 1) rfl (fun w h => h.1)) Try.underlying22 sz42 (by omega) (by omega)) rfl rfl rfl ?_
      refine o_pure (p_fieldAddrE rfl fo42_1) rfl rfl rfl ?_
      refine o_pure (p_loadF (i := i) (j := 1) (T := tEntry) (L := Exp.live now s.entries) (v := .int .i64 (((Exp.live now s.entries)[i]).value)) rfl (rd_ent (i := 1) rfl (fun w h => h.1)) (by first | assumption | omega) sh3 rfl) rfl rfl rfl ?_
      refine o_pure (p_assign (v := .int .i64 (((Exp.live now s.entries)[i]).value)) rfl) rfl rfl rfl ?_
      refine o_pure (p_assign (v := .bool true) rfl) rfl rfl rfl ?_
      refine o_nil ?_
      refine q_then ?_
      refine c_ret ?_
      refine q_block_ret (q_then_ret (q_then_ret (q_block_ret (q_then_ret ?_))))
      have hv := by first | exact Exp.GtI.found (key := key) (now := now) (i := i) hy1.sorted (by omega) (by assumption) | exact hI.none (by omega)
      have hr0 : (((Exp.live now s.entries)[i]).value : Int) = ((Exp.getGo s.entries key now).1) := by
        rw [hv]
      have hr1 : (true : Bool) = ((Exp.getGo s.entries key now).2) := by
        rw [hv]
      refine q_end0 (v := .tuple #[.int .i64 (((Exp.live now s.entries)[i]).value), .bool true]) (rt2 rfl (r_tmp rfl) (r_tmp rfl)) (i := 3) rfl ?_
      exact (by have hcc := congr (congrArg (fun (y0 : Int) (y1 : Bool) => (.tuple #[.int .i64 y0, .bool y1] : Value)) hr0) hr1; exact hcc)
    · simp only [beq_eq_false_iff_ne, ne_eq] at hc13
      refine c_skip ?_
      refine q_block_normal (q_then ?_)
      refine c_region ?_
      refine o_pure (p_move (v := .int .i64 (i : Int)) rfl) rfl rfl rfl ?_
      refine o_pure (p_addb (p := (i : Int)) (q := 1) rfl rfl (by omega)) rfl rfl rfl ?_
      refine o_pure (p_assign (v := .int .i64 ((i : Int) + 1)) rfl) rfl rfl rfl ?_
      refine o_nil ?_
      refine q_round hK11 (i + 1) ?_ ?_ ?_ ?_
      · clear hK11
        exact hI.next (by omega) (by assumption)
      · (try dsimp only); omega
      · exact Sub.cons rfl (Sub.cons rfl (Sub.cons rfl (Sub.nil _)))
      · exact fun _ hw => HeapIs.pick hw [0, 1, 2, 3] (by decide) rfl
  · simp only [decide_eq_false_iff_not, Int.not_lt] at hc12
    refine c_exit ?_
    refine q_then_exit (q_then_exit (q_block_exit (q_then ?_)))
    refine c_seq ?_
    refine c_region ?_
    refine o_pure (p_assign (v := .int .i64 0) rfl) rfl rfl rfl ?_
    refine o_pure (p_assign (v := .bool false) rfl) rfl rfl rfl ?_
    refine o_nil ?_
    refine q_then ?_
    refine c_ret ?_
    have hv := by first | exact Exp.GtI.found (key := key) (now := now) (i := i) hy1.sorted (by omega) (by assumption) | exact hI.none (by omega)
    have hr0 : (0 : Int) = ((Exp.getGo s.entries key now).1) := by
      rw [hv]
    have hr1 : (false : Bool) = ((Exp.getGo s.entries key now).2) := by
      rw [hv]
    refine q_end0 (v := .tuple #[.int .i64 0, .bool false]) (rt2 rfl (r_tmp rfl) (r_tmp rfl)) (i := 3) rfl ?_
    exact (by have hcc := congr (congrArg (fun (y0 : Int) (y1 : Bool) => (.tuple #[.int .i64 y0, .bool y1] : Value)) hr0) hr1; exact hcc)
end Go.Proofs.Ytkndekkacimekaa
