/- The walks, printed by a program from the translation and a specification. -/
import Derived.Test.YtgjdmnljnimamaaRgF
import Derived.Test.YtgjdmnljnimamaaRgLaw3
import Derived.Test.YtgjdmnljnimamaaRgW9
namespace Go.Proofs.Ytgjdmnljnimamaa
open Go.Sx Go.RowKit
set_option maxHeartbeats 8000000 in
set_option maxRecDepth 100000 in
theorem ringShares_ok (l : List DPoint) (al : Option Addr) (cl : Nat) (s : Int) (ps : List Int) (aps : Option Addr) (cps : Nat) : Fn0 Try.prog 5 [.slice al l.length cl, .int .i64 s, .slice aps ps.length cps] (fun w => Rd tPoint w al cl l ∧ Rd tInt w aps cps ps) (.bool true) := by
  refine fn0 (nt := 121) (F0 := [(0, .slice al l.length cl), (1, .int .i64 s), (2, .slice aps ps.length cps)]) Try.func5 rfl Try.ntmps5 rfl rfl (fun w0 hpre => ?_)
  obtain ⟨hl, hps⟩ := hpre
  have hlhl := hl.2.1
  have hlhps := hps.2.1
  refine c_seq ?_
  refine c_region ?_
  refine o_pure (p_assign (v := .bool false) rfl) rfl rfl rfl ?_
  refine o_nil ?_
  refine q_then ?_
  refine c_seq ?_
  refine c_region ?_
  refine o_pure (p_move (v := .slice aps ps.length cps) rfl) rfl rfl rfl ?_
  refine o_pure (p_move (v := .slice aps ps.length cps) rfl) rfl rfl rfl ?_
  refine o_pure (p_len_slice (len := ps.length) rfl rfl Try.underlying23) rfl rfl rfl ?_
  refine o_pure (p_min (p := (ps.length : Int)) (q := 20) rfl rfl) rfl rfl rfl ?_
  refine o_pure (p_sliceH (L := ps) (T := tInt) (h := (min (ps.length : Int) 20)) rfl rfl Try.underlying23 sz3 (by omega) (by omega) (rd_base (i := 0) rfl hps)) rfl rfl rfl ?_
  refine o_pure (p_assign (v := .slice aps (ps.take ((min (ps.length : Int) 20).toNat)).length cps) rfl) rfl rfl rfl ?_
  refine o_nil ?_
  refine q_then ?_
  refine c_seq ?_
  refine c_region ?_
  refine o_pure (p_move (v := .slice al l.length cl) rfl) rfl rfl rfl ?_
  refine o_callM rfl (rshares_ok l al cl (20 : Int)) hf18 (fun w hw => (rd_base (i := 0) rfl hl) w hw) rfl (fun _ _ _ _ ha hA => SlO.agree ha hA) ?_
  rintro ⟨a3, c4⟩ S1
  refine o_know (fun w hw => own_len (i := 0) (T := tInt) hw rfl) (fun hlr5 => ?_)
  refine o_pure (p_move (v := .tuple #[.slice a3 (Rg.shares l (20 : Int)).length c4, .int .i64 (Rg.shErr l (20 : Int))]) rfl) rfl rfl rfl ?_
  refine o_pure (p_extract (vs := [.slice a3 (Rg.shares l (20 : Int)).length c4, .int .i64 (Rg.shErr l (20 : Int))]) (v := .slice a3 (Rg.shares l (20 : Int)).length c4) rfl rfl) rfl rfl rfl ?_
  refine o_pure (p_extract (vs := [.slice a3 (Rg.shares l (20 : Int)).length c4, .int .i64 (Rg.shErr l (20 : Int))]) (v := .int .i64 (Rg.shErr l (20 : Int))) rfl rfl) rfl rfl rfl ?_
  refine o_pure (p_assign (v := .slice a3 (Rg.shares l (20 : Int)).length c4) rfl) rfl rfl rfl ?_
  refine o_pure (p_assign (v := .int .i64 (Rg.shErr l (20 : Int))) rfl) rfl rfl rfl ?_
  refine o_nil ?_
  refine q_then ?_
  refine c_seq ?_
  refine c_seq ?_
  refine c_region ?_
  refine o_call0 (v := .bool true) rfl (ringBegun_ok ) hf23 (fun _ _ => trivial) rfl ?_
  refine o_pure (p_not (b := true) rfl) rfl rfl rfl ?_
  refine o_nil ?_
  refine q_then ?_
  refine c_false rfl ?_
  refine c_skip ?_
  refine q_then ?_
  refine c_seq ?_
  refine c_seq ?_
  refine c_region ?_
  refine o_pure (p_move (v := .int .i64 (Rg.shErr l (20 : Int))) rfl) rfl rfl rfl ?_
  refine o_pure (p_ne (p := (Rg.shErr l (20 : Int))) (q := 0) rfl rfl) rfl rfl rfl ?_
  refine o_nil ?_
  refine q_then ?_
  refine c_cond (b := ((Rg.shErr l (20 : Int)) != 0)) rfl (fun hc6 => ?_) (fun hc6 => ?_)
  · simp only [bne_iff_ne, ne_eq] at hc6
    refine c_seq ?_
    refine c_region ?_
    refine o_pure (p_move (v := .slice a3 (Rg.shares l (20 : Int)).length c4) rfl) rfl rfl rfl ?_
    refine o_pure (p_len_slice (len := (Rg.shares l (20 : Int)).length) rfl rfl Try.underlying23) rfl rfl rfl ?_
    refine o_pure (p_eq (p := ((Rg.shares l (20 : Int)).length : Int)) (q := 0) rfl rfl) rfl rfl rfl ?_
    refine o_pure (p_assign (v := .bool (((Rg.shares l (20 : Int)).length : Int) == 0)) rfl) rfl rfl rfl ?_
    refine o_nil ?_
    refine q_then ?_
    refine c_ret ?_
    refine q_then_ret ?_
    have hr0 : ((((Rg.shares l (20 : Int)).length : Int) == 0) : Bool) = true := by
      first | rfl | (have h9 := Rg.shares_bad (l := l) (n := 20) (by assumption); rw [h9]; rfl) | (rw [hg0, hg20, hs20]; rfl)
    refine q_end0 (v := .bool (((Rg.shares l (20 : Int)).length : Int) == 0)) (rt1 rfl (r_tmp rfl)) (i := 1) rfl ?_
    exact (by have hcc := congrArg (fun (y0 : Bool) => (.bool y0 : Value)) hr0; exact hcc)
  · simp only [bne_eq_false_iff_eq] at hc6
    have hs0 := hc6
    have hs20 := Rg.shares_len hs0
    refine c_skip ?_
    refine q_then ?_
    refine c_seq ?_
    refine c_region ?_
    refine o_pure (p_assign (v := .int .i64 0) rfl) rfl rfl rfl ?_
    refine o_nil ?_
    refine q_then ?_
    refine c_seq ?_
    refine c_seq ?_
    refine c_region ?_
    refine o_pure (p_assign (v := .int .i64 0) rfl) rfl rfl rfl ?_
    refine o_nil ?_
    refine q_then ?_
    refine c_block ?_
    refine c_loop (St := Int × Nat)
      (fun ⟨all, i⟩ => [(0, .slice al l.length cl), (1, .int .i64 s), (2, .slice aps (ps.take ((min (ps.length : Int) 20).toNat)).length cps), (7, .slice a3 (Rg.shares l (20 : Int)).length c4), (9, .int .i64 all), (10, .int .i64 (i : Int))])
      (fun ⟨all, i⟩ => [own tInt S1 a3 c4 (Rg.shares l (20 : Int)), base w0])
      (fun ⟨all, i⟩ => Rg.UInv (Rg.shares l 20) all i)
      (fun ⟨all, i⟩ => (Rg.shares l 20).length - i)
      (0, 0) ?_ (Sub.cons rfl (Sub.cons rfl (Sub.cons rfl (Sub.cons rfl (Sub.cons rfl (Sub.cons rfl (Sub.nil _))))))) (fun _ hw => hw) ?_
    · exact Rg.UInv.start _
    rintro ⟨all, i⟩ hI K hK7
    have hle := hI.1
    show SC _ _ Try.prog 121 w0 _ _ [(0, .slice al l.length cl), (1, .int .i64 s), (2, .slice aps (ps.take ((min (ps.length : Int) 20).toNat)).length cps), (7, .slice a3 (Rg.shares l (20 : Int)).length c4), (9, .int .i64 all), (10, .int .i64 (i : Int))] [own tInt S1 a3 c4 (Rg.shares l (20 : Int)), base w0]
    refine c_seq ?_
    refine c_seq ?_
    refine c_region ?_
    refine o_pure (p_move (v := .int .i64 (i : Int)) rfl) rfl rfl rfl ?_
    refine o_pure (p_move (v := .slice a3 (Rg.shares l (20 : Int)).length c4) rfl) rfl rfl rfl ?_
    refine o_pure (p_len_slice (len := (Rg.shares l (20 : Int)).length) rfl rfl Try.underlying23) rfl rfl rfl ?_
    refine o_pure (p_lt (p := (i : Int)) (q := ((Rg.shares l (20 : Int)).length : Int)) rfl rfl) rfl rfl rfl ?_
    refine o_nil ?_
    refine q_then ?_
    refine c_cond (b := decide ((i : Int) < ((Rg.shares l (20 : Int)).length : Int))) rfl (fun hc8 => ?_) (fun hc8 => ?_)
    · simp only [decide_eq_true_eq] at hc8
      refine c_skip ?_
      refine q_then ?_
      refine c_seq ?_
      refine c_block ?_
      refine c_seq ?_
      refine c_region ?_
      refine o_pure (p_move (v := .int .i64 all) rfl) rfl rfl rfl ?_
      refine o_pure (p_move (v := .slice a3 (Rg.shares l (20 : Int)).length c4) rfl) rfl rfl rfl ?_
      refine o_pure (p_move (v := .int .i64 (i : Int)) rfl) rfl rfl rfl ?_
      refine o_pure (p_indexAddr (L := (Rg.shares l (20 : Int))) (T := tInt) (i := (i : Int)) rfl rfl (rd_own (i := 0) rfl) Try.underlying23 sz3 (by omega) (by omega)) rfl rfl rfl ?_
      refine o_pure (p_loadE1 (i := i) (T := tInt) (L := (Rg.shares l (20 : Int))) (v := .int .i64 ((Rg.shares l (20 : Int))[i])) rfl (rd_own (i := 0) rfl) (by first | assumption | omega) sh3 rfl) rfl rfl rfl ?_
      refine o_pure (p_addb (p := all) (q := (Rg.shares l (20 : Int))[i]) rfl rfl (by have h9 := hI.bd hs0; have h8 := Rg.shares_bd hs0 (j := i) (by omega); omega)) rfl rfl rfl ?_
      refine o_pure (p_assign (v := .int .i64 (all + (Rg.shares l (20 : Int))[i])) rfl) rfl rfl rfl ?_
      refine o_nil ?_
      refine q_then ?_
      refine c_seq ?_
      refine c_region ?_
      refine o_pure (p_move (v := .slice a3 (Rg.shares l (20 : Int)).length c4) rfl) rfl rfl rfl ?_
      refine o_pure (p_move (v := .int .i64 (i : Int)) rfl) rfl rfl rfl ?_
      refine o_pure (p_indexAddr (L := (Rg.shares l (20 : Int))) (T := tInt) (i := (i : Int)) rfl rfl (rd_own (i := 0) rfl) Try.underlying23 sz3 (by omega) (by omega)) rfl rfl rfl ?_
      refine o_pure (p_loadE1 (i := i) (T := tInt) (L := (Rg.shares l (20 : Int))) (v := .int .i64 ((Rg.shares l (20 : Int))[i])) rfl (rd_own (i := 0) rfl) (by first | assumption | omega) sh3 rfl) rfl rfl rfl ?_
      refine o_pure (p_lt (p := (Rg.shares l (20 : Int))[i]) (q := 0) rfl rfl) rfl rfl rfl ?_
      refine o_nil ?_
      refine q_then ?_
      refine c_cond (b := decide ((Rg.shares l (20 : Int))[i] < 0)) rfl (fun hc9 => ?_) (fun hc9 => ?_)
      · simp only [decide_eq_true_eq] at hc9
        exfalso; have h9 := Rg.shares_bd hs0 (j := i) (by omega); omega
      · simp only [decide_eq_false_iff_not, Int.not_lt] at hc9
        refine c_skip ?_
        refine q_block_normal (q_then ?_)
        refine c_region ?_
        refine o_pure (p_move (v := .int .i64 (i : Int)) rfl) rfl rfl rfl ?_
        refine o_pure (p_addb (p := (i : Int)) (q := 1) rfl rfl (by omega)) rfl rfl rfl ?_
        refine o_pure (p_assign (v := .int .i64 ((i : Int) + 1)) rfl) rfl rfl rfl ?_
        refine o_nil ?_
        refine q_round hK7 ((all + (Rg.shares l (20 : Int))[i]), i + 1) ?_ ?_ ?_ ?_
        · clear hK7
          exact hI.next (by omega)
        · (try dsimp only); omega
        · exact Sub.cons rfl (Sub.cons rfl (Sub.cons rfl (Sub.cons rfl (Sub.cons rfl (Sub.cons rfl (Sub.nil _))))))
        · exact fun _ hw => HeapIs.pick hw [0, 1] (by decide) rfl
    · simp only [decide_eq_false_iff_not, Int.not_lt] at hc8
      refine c_exit ?_
      refine q_then_exit (q_then_exit (q_block_exit (q_then ?_)))
      refine c_seq ?_
      refine c_seq ?_
      refine c_region ?_
      refine o_pure (p_move (v := .int .i64 all) rfl) rfl rfl rfl ?_
      refine o_pure (p_ne (p := all) (q := 65536) rfl rfl) rfl rfl rfl ?_
      refine o_pure (p_move (v := .bool (all != 65536)) rfl) rfl rfl rfl ?_
      refine o_or (p := 56) 4 (((Rg.shares l (20 : Int)).length : Int) != 20) ?_ ?_ ?_
      · intro hb10 hk
        simp only [bne_eq_false_iff_eq] at hb10
        refine o_unguard 52 rfl rfl ?_
        refine o_pure (p_move (v := .slice a3 (Rg.shares l (20 : Int)).length c4) rfl) rfl rfl rfl ?_
        refine o_unguard 52 rfl rfl ?_
        refine o_pure (p_len_slice (len := (Rg.shares l (20 : Int)).length) rfl rfl Try.underlying23) rfl rfl rfl ?_
        refine o_unguard 52 rfl rfl ?_
        refine o_pure (p_ne (p := ((Rg.shares l (20 : Int)).length : Int)) (q := 20) rfl rfl) rfl rfl rfl ?_
        refine o_pure (p_pick_false (v := .bool (((Rg.shares l (20 : Int)).length : Int) != 20)) rfl rfl) rfl rfl rfl ?_
        exact o_sub (Sub.cons rfl (Sub.skip rfl (Sub.skip rfl (Sub.skip rfl (Sub.skip rfl (Sub.skip rfl (Sub.refl _))))))) hk
      · intro hb10 hk
        refine o_guard_no rfl 52 rfl rfl rfl rfl rfl ?_
        refine o_guard_no rfl 52 rfl rfl rfl rfl rfl ?_
        refine o_guard_no rfl 52 rfl rfl rfl rfl rfl ?_
        refine o_pure (p_pick_true (u := .bool true) rfl rfl) rfl rfl rfl ?_
        exact o_sub (Sub.cons rfl (Sub.skip rfl (Sub.skip rfl (Sub.skip rfl (Sub.skip rfl (Sub.skip rfl (Sub.refl _))))))) hk
      refine o_nil ?_
      refine q_then ?_
      refine c_cond (b := ((all != 65536) || (((Rg.shares l (20 : Int)).length : Int) != 20))) rfl (fun hc11 => ?_) (fun hc11 => ?_)
      · simp only [Bool.or_eq_true, bne_iff_ne, ne_eq] at hc11
        exfalso; have h9 := hI.done hs0 (by omega); omega
      · simp only [Bool.or_eq_false_iff, bne_eq_false_iff_eq] at hc11
        refine c_skip ?_
        refine q_then ?_
        refine c_seq ?_
        refine c_region ?_
        refine o_pure (p_move (v := .slice al l.length cl) rfl) rfl rfl rfl ?_
        refine o_pure (p_move (v := .int .i64 s) rfl) rfl rfl rfl ?_
        refine o_pure (p_move (v := .slice aps (ps.take ((min (ps.length : Int) 20).toNat)).length cps) rfl) rfl rfl rfl ?_
        refine o_callM rfl (radd_ok l al cl s (ps.take ((min (ps.length : Int) 20).toNat)) aps cps) hf16 (fun w hw => ⟨(rd_base (i := 1) rfl hl) w hw, (rd_takeC (hi := (min (ps.length : Int) 20).toNat) (rd_base (i := 1) rfl hps) (by omega)) w hw⟩) rfl (fun _ _ _ _ ha hA => SlO.agree ha hA) ?_
        rintro ⟨a14, c15⟩ S12
        refine o_know (fun w hw => own_len (i := 0) (T := tPoint) hw rfl) (fun hlr16 => ?_)
        refine o_pure (p_move (v := .tuple #[.slice a14 (Rg.add l s (ps.take ((min (ps.length : Int) 20).toNat))).length c15, .int .i64 (Rg.addErr l s (ps.take ((min (ps.length : Int) 20).toNat)))]) rfl) rfl rfl rfl ?_
        refine o_pure (p_extract (vs := [.slice a14 (Rg.add l s (ps.take ((min (ps.length : Int) 20).toNat))).length c15, .int .i64 (Rg.addErr l s (ps.take ((min (ps.length : Int) 20).toNat)))]) (v := .slice a14 (Rg.add l s (ps.take ((min (ps.length : Int) 20).toNat))).length c15) rfl rfl) rfl rfl rfl ?_
        refine o_pure (p_extract (vs := [.slice a14 (Rg.add l s (ps.take ((min (ps.length : Int) 20).toNat))).length c15, .int .i64 (Rg.addErr l s (ps.take ((min (ps.length : Int) 20).toNat)))]) (v := .int .i64 (Rg.addErr l s (ps.take ((min (ps.length : Int) 20).toNat)))) rfl rfl) rfl rfl rfl ?_
        refine o_pure (p_assign (v := .slice a14 (Rg.add l s (ps.take ((min (ps.length : Int) 20).toNat))).length c15) rfl) rfl rfl rfl ?_
        refine o_pure (p_assign (v := .int .i64 (Rg.addErr l s (ps.take ((min (ps.length : Int) 20).toNat)))) rfl) rfl rfl rfl ?_
        refine o_nil ?_
        refine q_then ?_
        refine c_seq ?_
        refine c_seq ?_
        refine c_region ?_
        refine o_pure (p_move (v := .int .i64 (Rg.addErr l s (ps.take ((min (ps.length : Int) 20).toNat)))) rfl) rfl rfl rfl ?_
        refine o_pure (p_ne (p := (Rg.addErr l s (ps.take ((min (ps.length : Int) 20).toNat)))) (q := 0) rfl rfl) rfl rfl rfl ?_
        refine o_nil ?_
        refine q_then ?_
        refine c_cond (b := ((Rg.addErr l s (ps.take ((min (ps.length : Int) 20).toNat))) != 0)) rfl (fun hc17 => ?_) (fun hc17 => ?_)
        · simp only [bne_iff_ne, ne_eq] at hc17
          refine c_seq ?_
          refine c_region ?_
          refine o_pure (p_assign (v := .bool true) rfl) rfl rfl rfl ?_
          refine o_nil ?_
          refine q_then ?_
          refine c_ret ?_
          refine q_then_ret ?_
          refine q_end0 (v := .bool true) (rt1 rfl (r_tmp rfl)) (i := 2) rfl ?_
          exact rfl
        · simp only [bne_eq_false_iff_eq] at hc17
          have ha0 := hc17
          obtain ⟨hg0, hg20, hgr⟩ := Rg.shares_add hs0 ha0
          refine c_skip ?_
          refine q_then ?_
          refine c_seq ?_
          refine c_region ?_
          refine o_pure (p_move (v := .slice a14 (Rg.add l s (ps.take ((min (ps.length : Int) 20).toNat))).length c15) rfl) rfl rfl rfl ?_
          refine o_callM rfl (rshares_ok (Rg.add l s (ps.take ((min (ps.length : Int) 20).toNat))) a14 c15 (20 : Int)) hf18 (fun w hw => (rd_own (i := 0) rfl) w hw) rfl (fun _ _ _ _ ha hA => SlO.agree ha hA) ?_
          rintro ⟨a20, c21⟩ S18
          refine o_know (fun w hw => own_len (i := 0) (T := tInt) hw rfl) (fun hlr22 => ?_)
          refine o_pure (p_move (v := .tuple #[.slice a20 (Rg.shares (Rg.add l s (ps.take ((min (ps.length : Int) 20).toNat))) (20 : Int)).length c21, .int .i64 (Rg.shErr (Rg.add l s (ps.take ((min (ps.length : Int) 20).toNat))) (20 : Int))]) rfl) rfl rfl rfl ?_
          refine o_pure (p_extract (vs := [.slice a20 (Rg.shares (Rg.add l s (ps.take ((min (ps.length : Int) 20).toNat))) (20 : Int)).length c21, .int .i64 (Rg.shErr (Rg.add l s (ps.take ((min (ps.length : Int) 20).toNat))) (20 : Int))]) (v := .slice a20 (Rg.shares (Rg.add l s (ps.take ((min (ps.length : Int) 20).toNat))) (20 : Int)).length c21) rfl rfl) rfl rfl rfl ?_
          refine o_pure (p_extract (vs := [.slice a20 (Rg.shares (Rg.add l s (ps.take ((min (ps.length : Int) 20).toNat))) (20 : Int)).length c21, .int .i64 (Rg.shErr (Rg.add l s (ps.take ((min (ps.length : Int) 20).toNat))) (20 : Int))]) (v := .int .i64 (Rg.shErr (Rg.add l s (ps.take ((min (ps.length : Int) 20).toNat))) (20 : Int))) rfl rfl) rfl rfl rfl ?_
          refine o_pure (p_assign (v := .slice a20 (Rg.shares (Rg.add l s (ps.take ((min (ps.length : Int) 20).toNat))) (20 : Int)).length c21) rfl) rfl rfl rfl ?_
          refine o_pure (p_assign (v := .int .i64 (Rg.shErr (Rg.add l s (ps.take ((min (ps.length : Int) 20).toNat))) (20 : Int))) rfl) rfl rfl rfl ?_
          refine o_nil ?_
          refine q_then ?_
          refine c_seq ?_
          refine c_seq ?_
          refine c_region ?_
          refine o_pure (p_move (v := .slice a20 (Rg.shares (Rg.add l s (ps.take ((min (ps.length : Int) 20).toNat))) (20 : Int)).length c21) rfl) rfl rfl rfl ?_
          refine o_pure (p_len_slice (len := (Rg.shares (Rg.add l s (ps.take ((min (ps.length : Int) 20).toNat))) (20 : Int)).length) rfl rfl Try.underlying23) rfl rfl rfl ?_
          refine o_pure (p_move (v := .slice a3 (Rg.shares l (20 : Int)).length c4) rfl) rfl rfl rfl ?_
          refine o_pure (p_len_slice (len := (Rg.shares l (20 : Int)).length) rfl rfl Try.underlying23) rfl rfl rfl ?_
          refine o_pure (p_ne (p := ((Rg.shares (Rg.add l s (ps.take ((min (ps.length : Int) 20).toNat))) (20 : Int)).length : Int)) (q := ((Rg.shares l (20 : Int)).length : Int)) rfl rfl) rfl rfl rfl ?_
          refine o_nil ?_
          refine q_then ?_
          refine c_cond (b := (((Rg.shares (Rg.add l s (ps.take ((min (ps.length : Int) 20).toNat))) (20 : Int)).length : Int) != ((Rg.shares l (20 : Int)).length : Int))) rfl (fun hc23 => ?_) (fun hc23 => ?_)
          · simp only [bne_iff_ne, ne_eq] at hc23
            exfalso; omega
          · simp only [bne_eq_false_iff_eq] at hc23
            refine c_skip ?_
            refine q_then ?_
            refine c_seq ?_
            refine c_seq ?_
            refine c_region ?_
            refine o_pure (p_assign (v := .int .i64 0) rfl) rfl rfl rfl ?_
            refine o_nil ?_
            refine q_then ?_
            refine c_block ?_
            refine c_loop (St := Nat)
              (fun i2 => [(1, .int .i64 s), (7, .slice a3 (Rg.shares l (20 : Int)).length c4), (13, .slice a20 (Rg.shares (Rg.add l s (ps.take ((min (ps.length : Int) 20).toNat))) (20 : Int)).length c21), (14, .int .i64 (Rg.shErr (Rg.add l s (ps.take ((min (ps.length : Int) 20).toNat))) (20 : Int))), (15, .int .i64 (i2 : Int))])
              (fun i2 => [own tInt S18 a20 c21 (Rg.shares (Rg.add l s (ps.take ((min (ps.length : Int) 20).toNat))) (20 : Int)), own tPoint S12 a14 c15 (Rg.add l s (ps.take ((min (ps.length : Int) 20).toNat))), own tInt S1 a3 c4 (Rg.shares l (20 : Int)), base w0])
              (fun i2 => i2 ≤ (Rg.shares (Rg.add l s (ps.take (min (ps.length : Int) 20).toNat)) 20).length)
              (fun i2 => (Rg.shares (Rg.add l s (ps.take (min (ps.length : Int) 20).toNat)) 20).length - i2)
              0 ?_ (Sub.cons rfl (Sub.cons rfl (Sub.cons rfl (Sub.cons rfl (Sub.cons rfl (Sub.nil _)))))) (fun _ hw => hw) ?_
            · exact Nat.zero_le _
            rintro i2 hI K hK24
            show SC _ _ Try.prog 121 w0 _ _ [(1, .int .i64 s), (7, .slice a3 (Rg.shares l (20 : Int)).length c4), (13, .slice a20 (Rg.shares (Rg.add l s (ps.take ((min (ps.length : Int) 20).toNat))) (20 : Int)).length c21), (14, .int .i64 (Rg.shErr (Rg.add l s (ps.take ((min (ps.length : Int) 20).toNat))) (20 : Int))), (15, .int .i64 (i2 : Int))] [own tInt S18 a20 c21 (Rg.shares (Rg.add l s (ps.take ((min (ps.length : Int) 20).toNat))) (20 : Int)), own tPoint S12 a14 c15 (Rg.add l s (ps.take ((min (ps.length : Int) 20).toNat))), own tInt S1 a3 c4 (Rg.shares l (20 : Int)), base w0]
            refine c_seq ?_
            refine c_seq ?_
            refine c_region ?_
            refine o_pure (p_move (v := .int .i64 (i2 : Int)) rfl) rfl rfl rfl ?_
            refine o_pure (p_move (v := .slice a20 (Rg.shares (Rg.add l s (ps.take ((min (ps.length : Int) 20).toNat))) (20 : Int)).length c21) rfl) rfl rfl rfl ?_
            refine o_pure (p_len_slice (len := (Rg.shares (Rg.add l s (ps.take ((min (ps.length : Int) 20).toNat))) (20 : Int)).length) rfl rfl Try.underlying23) rfl rfl rfl ?_
            refine o_pure (p_lt (p := (i2 : Int)) (q := ((Rg.shares (Rg.add l s (ps.take ((min (ps.length : Int) 20).toNat))) (20 : Int)).length : Int)) rfl rfl) rfl rfl rfl ?_
            refine o_nil ?_
            refine q_then ?_
            refine c_cond (b := decide ((i2 : Int) < ((Rg.shares (Rg.add l s (ps.take ((min (ps.length : Int) 20).toNat))) (20 : Int)).length : Int))) rfl (fun hc25 => ?_) (fun hc25 => ?_)
            · simp only [decide_eq_true_eq] at hc25
              refine c_skip ?_
              refine q_then ?_
              refine c_seq ?_
              refine c_block ?_
              refine c_seq ?_
              refine c_draw hmix (by kernel_rfl) ?_
              refine w_pure (p_move (v := .int .i64 (i2 : Int)) rfl) rfl rfl rfl ?_
              refine w_pure (p_move (v := .int .i64 s) rfl) rfl rfl rfl ?_
              refine w_pure (p_eq (p := (i2 : Int)) (q := s) rfl rfl) rfl rfl rfl ?_
              refine w_pure (p_move (v := .bool ((i2 : Int) == s)) rfl) rfl rfl rfl ?_
              refine w_and (p := 95) 10 (decide ((Rg.shares (Rg.add l s (ps.take ((min (ps.length : Int) 20).toNat))) (20 : Int))[i2] < (Rg.shares l (20 : Int))[i2])) ?_ ?_ ?_
              · intro hb26 hk
                simp only [beq_iff_eq] at hb26
                refine w_unguard 85 rfl rfl ?_
                refine w_pure (p_move (v := .slice a20 (Rg.shares (Rg.add l s (ps.take ((min (ps.length : Int) 20).toNat))) (20 : Int)).length c21) rfl) rfl rfl rfl ?_
                refine w_unguard 85 rfl rfl ?_
                refine w_pure (p_move (v := .int .i64 (i2 : Int)) rfl) rfl rfl rfl ?_
                refine w_unguard 85 rfl rfl ?_
                refine w_pure (p_indexAddr (L := (Rg.shares (Rg.add l s (ps.take ((min (ps.length : Int) 20).toNat))) (20 : Int))) (T := tInt) (i := (i2 : Int)) rfl rfl (rd_own (i := 0) rfl) Try.underlying23 sz3 (by omega) (by omega)) rfl rfl rfl ?_
                refine w_unguard 85 rfl rfl ?_
                refine w_pure (p_loadE1 (i := i2) (T := tInt) (L := (Rg.shares (Rg.add l s (ps.take ((min (ps.length : Int) 20).toNat))) (20 : Int))) (v := .int .i64 ((Rg.shares (Rg.add l s (ps.take ((min (ps.length : Int) 20).toNat))) (20 : Int))[i2])) rfl (rd_own (i := 0) rfl) (by first | assumption | omega) sh3 rfl) rfl rfl rfl ?_
                refine w_unguard 85 rfl rfl ?_
                refine w_pure (p_move (v := .slice a3 (Rg.shares l (20 : Int)).length c4) rfl) rfl rfl rfl ?_
                refine w_unguard 85 rfl rfl ?_
                refine w_pure (p_move (v := .int .i64 (i2 : Int)) rfl) rfl rfl rfl ?_
                refine w_unguard 85 rfl rfl ?_
                refine w_pure (p_indexAddr (L := (Rg.shares l (20 : Int))) (T := tInt) (i := (i2 : Int)) rfl rfl (rd_own (i := 2) rfl) Try.underlying23 sz3 (by omega) (by omega)) rfl rfl rfl ?_
                refine w_unguard 85 rfl rfl ?_
                refine w_pure (p_loadE1 (i := i2) (T := tInt) (L := (Rg.shares l (20 : Int))) (v := .int .i64 ((Rg.shares l (20 : Int))[i2])) rfl (rd_own (i := 2) rfl) (by first | assumption | omega) sh3 rfl) rfl rfl rfl ?_
                refine w_unguard 85 rfl rfl ?_
                refine w_pure (p_lt (p := (Rg.shares (Rg.add l s (ps.take ((min (ps.length : Int) 20).toNat))) (20 : Int))[i2]) (q := (Rg.shares l (20 : Int))[i2]) rfl rfl) rfl rfl rfl ?_
                refine w_pure (p_pick_true (u := .bool (decide ((Rg.shares (Rg.add l s (ps.take ((min (ps.length : Int) 20).toNat))) (20 : Int))[i2] < (Rg.shares l (20 : Int))[i2]))) rfl rfl) rfl rfl rfl ?_
                exact w_sub (Sub.cons rfl (Sub.skip rfl (Sub.skip rfl (Sub.skip rfl (Sub.skip rfl (Sub.skip rfl (Sub.skip rfl (Sub.skip rfl (Sub.skip rfl (Sub.skip rfl (Sub.skip rfl (Sub.skip rfl (Sub.refl _))))))))))))) hk
              · intro hb26 hk
                refine w_guard_no rfl 85 rfl rfl rfl rfl rfl ?_
                refine w_guard_no rfl 85 rfl rfl rfl rfl rfl ?_
                refine w_guard_no rfl 85 rfl rfl rfl rfl rfl ?_
                refine w_guard_no rfl 85 rfl rfl rfl rfl rfl ?_
                refine w_guard_no rfl 85 rfl rfl rfl rfl rfl ?_
                refine w_guard_no rfl 85 rfl rfl rfl rfl rfl ?_
                refine w_guard_no rfl 85 rfl rfl rfl rfl rfl ?_
                refine w_guard_no rfl 85 rfl rfl rfl rfl rfl ?_
                refine w_guard_no rfl 85 rfl rfl rfl rfl rfl ?_
                refine w_pure (p_pick_false (v := .bool false) rfl rfl) rfl rfl rfl ?_
                exact w_sub (Sub.cons rfl (Sub.skip rfl (Sub.skip rfl (Sub.skip rfl (Sub.skip rfl (Sub.skip rfl (Sub.skip rfl (Sub.skip rfl (Sub.skip rfl (Sub.skip rfl (Sub.skip rfl (Sub.skip rfl (Sub.refl _))))))))))))) hk
              refine w_pure (p_move (v := .bool (((i2 : Int) == s) && decide ((Rg.shares (Rg.add l s (ps.take ((min (ps.length : Int) 20).toNat))) (20 : Int))[i2] < (Rg.shares l (20 : Int))[i2]))) rfl) rfl rfl rfl ?_
              refine w_or (p := 111) 15 (((i2 : Int) != s) && decide ((Rg.shares l (20 : Int))[i2] < (Rg.shares (Rg.add l s (ps.take ((min (ps.length : Int) 20).toNat))) (20 : Int))[i2])) ?_ ?_ ?_
              · intro hb27 hk
                simp only [Bool.and_eq_false_iff, beq_eq_false_iff_ne, ne_eq, decide_eq_false_iff_not, Int.not_lt] at hb27
                refine w_unguard 96 rfl rfl ?_
                refine w_pure (p_move (v := .int .i64 (i2 : Int)) rfl) rfl rfl rfl ?_
                refine w_unguard 96 rfl rfl ?_
                refine w_pure (p_move (v := .int .i64 s) rfl) rfl rfl rfl ?_
                refine w_unguard 96 rfl rfl ?_
                refine w_pure (p_ne (p := (i2 : Int)) (q := s) rfl rfl) rfl rfl rfl ?_
                refine w_unguard 96 rfl rfl ?_
                refine w_pure (p_move (v := .bool ((i2 : Int) != s)) rfl) rfl rfl rfl ?_
                refine w_and (p := 110) 10 (decide ((Rg.shares l (20 : Int))[i2] < (Rg.shares (Rg.add l s (ps.take ((min (ps.length : Int) 20).toNat))) (20 : Int))[i2])) ?_ ?_ ?_
                · intro hb28 hk
                  simp only [bne_iff_ne, ne_eq] at hb28
                  refine w_unguard 100 rfl rfl ?_
                  refine w_pure (p_move (v := .slice a20 (Rg.shares (Rg.add l s (ps.take ((min (ps.length : Int) 20).toNat))) (20 : Int)).length c21) rfl) rfl rfl rfl ?_
                  refine w_unguard 100 rfl rfl ?_
                  refine w_pure (p_move (v := .int .i64 (i2 : Int)) rfl) rfl rfl rfl ?_
                  refine w_unguard 100 rfl rfl ?_
                  refine w_pure (p_indexAddr (L := (Rg.shares (Rg.add l s (ps.take ((min (ps.length : Int) 20).toNat))) (20 : Int))) (T := tInt) (i := (i2 : Int)) rfl rfl (rd_own (i := 0) rfl) Try.underlying23 sz3 (by omega) (by omega)) rfl rfl rfl ?_
                  refine w_unguard 100 rfl rfl ?_
                  refine w_pure (p_loadE1 (i := i2) (T := tInt) (L := (Rg.shares (Rg.add l s (ps.take ((min (ps.length : Int) 20).toNat))) (20 : Int))) (v := .int .i64 ((Rg.shares (Rg.add l s (ps.take ((min (ps.length : Int) 20).toNat))) (20 : Int))[i2])) rfl (rd_own (i := 0) rfl) (by first | assumption | omega) sh3 rfl) rfl rfl rfl ?_
                  refine w_unguard 100 rfl rfl ?_
                  refine w_pure (p_move (v := .slice a3 (Rg.shares l (20 : Int)).length c4) rfl) rfl rfl rfl ?_
                  refine w_unguard 100 rfl rfl ?_
                  refine w_pure (p_move (v := .int .i64 (i2 : Int)) rfl) rfl rfl rfl ?_
                  refine w_unguard 100 rfl rfl ?_
                  refine w_pure (p_indexAddr (L := (Rg.shares l (20 : Int))) (T := tInt) (i := (i2 : Int)) rfl rfl (rd_own (i := 2) rfl) Try.underlying23 sz3 (by omega) (by omega)) rfl rfl rfl ?_
                  refine w_unguard 100 rfl rfl ?_
                  refine w_pure (p_loadE1 (i := i2) (T := tInt) (L := (Rg.shares l (20 : Int))) (v := .int .i64 ((Rg.shares l (20 : Int))[i2])) rfl (rd_own (i := 2) rfl) (by first | assumption | omega) sh3 rfl) rfl rfl rfl ?_
                  refine w_unguard 100 rfl rfl ?_
                  refine w_pure (p_gt (p := (Rg.shares (Rg.add l s (ps.take ((min (ps.length : Int) 20).toNat))) (20 : Int))[i2]) (q := (Rg.shares l (20 : Int))[i2]) rfl rfl) rfl rfl rfl ?_
                  refine w_unguard 96 rfl rfl ?_
                  refine w_pure (p_pick_true (u := .bool (decide ((Rg.shares l (20 : Int))[i2] < (Rg.shares (Rg.add l s (ps.take ((min (ps.length : Int) 20).toNat))) (20 : Int))[i2]))) rfl rfl) rfl rfl rfl ?_
                  exact w_sub (Sub.cons rfl (Sub.skip rfl (Sub.skip rfl (Sub.skip rfl (Sub.skip rfl (Sub.skip rfl (Sub.skip rfl (Sub.skip rfl (Sub.skip rfl (Sub.skip rfl (Sub.skip rfl (Sub.skip rfl (Sub.refl _))))))))))))) hk
                · intro hb28 hk
                  refine w_guard_no rfl 100 rfl rfl rfl rfl rfl ?_
                  refine w_guard_no rfl 100 rfl rfl rfl rfl rfl ?_
                  refine w_guard_no rfl 100 rfl rfl rfl rfl rfl ?_
                  refine w_guard_no rfl 100 rfl rfl rfl rfl rfl ?_
                  refine w_guard_no rfl 100 rfl rfl rfl rfl rfl ?_
                  refine w_guard_no rfl 100 rfl rfl rfl rfl rfl ?_
                  refine w_guard_no rfl 100 rfl rfl rfl rfl rfl ?_
                  refine w_guard_no rfl 100 rfl rfl rfl rfl rfl ?_
                  refine w_guard_no rfl 100 rfl rfl rfl rfl rfl ?_
                  refine w_unguard 96 rfl rfl ?_
                  refine w_pure (p_pick_false (v := .bool false) rfl rfl) rfl rfl rfl ?_
                  exact w_sub (Sub.cons rfl (Sub.skip rfl (Sub.skip rfl (Sub.skip rfl (Sub.skip rfl (Sub.skip rfl (Sub.skip rfl (Sub.skip rfl (Sub.skip rfl (Sub.skip rfl (Sub.skip rfl (Sub.skip rfl (Sub.refl _))))))))))))) hk
                refine w_pure (p_pick_false (v := .bool (((i2 : Int) != s) && decide ((Rg.shares l (20 : Int))[i2] < (Rg.shares (Rg.add l s (ps.take ((min (ps.length : Int) 20).toNat))) (20 : Int))[i2]))) rfl rfl) rfl rfl rfl ?_
                exact w_sub (Sub.cons rfl (Sub.skip rfl (Sub.skip rfl (Sub.skip rfl (Sub.skip rfl (Sub.skip rfl (Sub.skip rfl (Sub.refl _)))))))) hk
              · intro hb27 hk
                refine w_guard_no rfl 96 rfl rfl rfl rfl rfl ?_
                refine w_guard_no rfl 96 rfl rfl rfl rfl rfl ?_
                refine w_guard_no rfl 96 rfl rfl rfl rfl rfl ?_
                refine w_guard_no rfl 96 rfl rfl rfl rfl rfl ?_
                refine w_guard_no rfl 100 rfl rfl rfl rfl rfl ?_
                refine w_guard_no rfl 100 rfl rfl rfl rfl rfl ?_
                refine w_guard_no rfl 100 rfl rfl rfl rfl rfl ?_
                refine w_guard_no rfl 100 rfl rfl rfl rfl rfl ?_
                refine w_guard_no rfl 100 rfl rfl rfl rfl rfl ?_
                refine w_guard_no rfl 100 rfl rfl rfl rfl rfl ?_
                refine w_guard_no rfl 100 rfl rfl rfl rfl rfl ?_
                refine w_guard_no rfl 100 rfl rfl rfl rfl rfl ?_
                refine w_guard_no rfl 100 rfl rfl rfl rfl rfl ?_
                refine w_guard_no rfl 96 rfl rfl rfl rfl rfl ?_
                refine w_pure (p_pick_true (u := .bool true) rfl rfl) rfl rfl rfl ?_
                exact w_sub (Sub.cons rfl (Sub.skip rfl (Sub.skip rfl (Sub.skip rfl (Sub.skip rfl (Sub.skip rfl (Sub.skip rfl (Sub.skip rfl (Sub.skip rfl (Sub.skip rfl (Sub.skip rfl (Sub.skip rfl (Sub.skip rfl (Sub.skip rfl (Sub.skip rfl (Sub.skip rfl (Sub.skip rfl (Sub.refl _)))))))))))))))))) hk
              refine w_nil ?_
              refine q_then ?_
              refine c_cond (b := ((((i2 : Int) == s) && decide ((Rg.shares (Rg.add l s (ps.take ((min (ps.length : Int) 20).toNat))) (20 : Int))[i2] < (Rg.shares l (20 : Int))[i2])) || (((i2 : Int) != s) && decide ((Rg.shares l (20 : Int))[i2] < (Rg.shares (Rg.add l s (ps.take ((min (ps.length : Int) 20).toNat))) (20 : Int))[i2])))) rfl (fun hc29 => ?_) (fun hc29 => ?_)
              · simp only [Bool.or_eq_true, Bool.and_eq_true, beq_iff_eq, decide_eq_true_eq, bne_iff_ne, ne_eq] at hc29
                exfalso; have h9 := hgr i2 (by omega) (by omega); omega
              · simp only [Bool.or_eq_false_iff, Bool.and_eq_false_iff, beq_eq_false_iff_ne, ne_eq, decide_eq_false_iff_not, Int.not_lt, bne_eq_false_iff_eq] at hc29
                refine c_skip ?_
                refine q_block_normal (q_then ?_)
                refine c_region ?_
                refine o_pure (p_move (v := .int .i64 (i2 : Int)) rfl) rfl rfl rfl ?_
                refine o_pure (p_addb (p := (i2 : Int)) (q := 1) rfl rfl (by omega)) rfl rfl rfl ?_
                refine o_pure (p_assign (v := .int .i64 ((i2 : Int) + 1)) rfl) rfl rfl rfl ?_
                refine o_nil ?_
                refine q_round hK24 (i2 + 1) ?_ ?_ ?_ ?_
                · clear hK24
                  omega
                · (try dsimp only); omega
                · exact Sub.cons rfl (Sub.cons rfl (Sub.cons rfl (Sub.cons rfl (Sub.cons rfl (Sub.nil _)))))
                · exact fun _ hw => HeapIs.pick hw [0, 1, 2, 3] (by decide) rfl
            · simp only [decide_eq_false_iff_not, Int.not_lt] at hc25
              refine c_exit ?_
              refine q_then_exit (q_then_exit (q_block_exit (q_then ?_)))
              refine c_seq ?_
              refine c_region ?_
              refine o_pure (p_move (v := .int .i64 (Rg.shErr (Rg.add l s (ps.take ((min (ps.length : Int) 20).toNat))) (20 : Int))) rfl) rfl rfl rfl ?_
              refine o_pure (p_eq (p := (Rg.shErr (Rg.add l s (ps.take ((min (ps.length : Int) 20).toNat))) (20 : Int))) (q := 0) rfl rfl) rfl rfl rfl ?_
              refine o_pure (p_move (v := .bool ((Rg.shErr (Rg.add l s (ps.take ((min (ps.length : Int) 20).toNat))) (20 : Int)) == 0)) rfl) rfl rfl rfl ?_
              refine o_and (p := 120) 6 (((Rg.shares (Rg.add l s (ps.take ((min (ps.length : Int) 20).toNat))) (20 : Int)).length : Int) == ((Rg.shares l (20 : Int)).length : Int)) ?_ ?_ ?_
              · intro hb30 hk
                simp only [beq_iff_eq] at hb30
                refine o_unguard 114 rfl rfl ?_
                refine o_pure (p_move (v := .slice a20 (Rg.shares (Rg.add l s (ps.take ((min (ps.length : Int) 20).toNat))) (20 : Int)).length c21) rfl) rfl rfl rfl ?_
                refine o_unguard 114 rfl rfl ?_
                refine o_pure (p_len_slice (len := (Rg.shares (Rg.add l s (ps.take ((min (ps.length : Int) 20).toNat))) (20 : Int)).length) rfl rfl Try.underlying23) rfl rfl rfl ?_
                refine o_unguard 114 rfl rfl ?_
                refine o_pure (p_move (v := .slice a3 (Rg.shares l (20 : Int)).length c4) rfl) rfl rfl rfl ?_
                refine o_unguard 114 rfl rfl ?_
                refine o_pure (p_len_slice (len := (Rg.shares l (20 : Int)).length) rfl rfl Try.underlying23) rfl rfl rfl ?_
                refine o_unguard 114 rfl rfl ?_
                refine o_pure (p_eq (p := ((Rg.shares (Rg.add l s (ps.take ((min (ps.length : Int) 20).toNat))) (20 : Int)).length : Int)) (q := ((Rg.shares l (20 : Int)).length : Int)) rfl rfl) rfl rfl rfl ?_
                refine o_pure (p_pick_true (u := .bool (((Rg.shares (Rg.add l s (ps.take ((min (ps.length : Int) 20).toNat))) (20 : Int)).length : Int) == ((Rg.shares l (20 : Int)).length : Int))) rfl rfl) rfl rfl rfl ?_
                exact o_sub (Sub.cons rfl (Sub.skip rfl (Sub.skip rfl (Sub.skip rfl (Sub.skip rfl (Sub.skip rfl (Sub.skip rfl (Sub.skip rfl (Sub.refl _))))))))) hk
              · intro hb30 hk
                refine o_guard_no rfl 114 rfl rfl rfl rfl rfl ?_
                refine o_guard_no rfl 114 rfl rfl rfl rfl rfl ?_
                refine o_guard_no rfl 114 rfl rfl rfl rfl rfl ?_
                refine o_guard_no rfl 114 rfl rfl rfl rfl rfl ?_
                refine o_guard_no rfl 114 rfl rfl rfl rfl rfl ?_
                refine o_pure (p_pick_false (v := .bool false) rfl rfl) rfl rfl rfl ?_
                exact o_sub (Sub.cons rfl (Sub.skip rfl (Sub.skip rfl (Sub.skip rfl (Sub.skip rfl (Sub.skip rfl (Sub.skip rfl (Sub.skip rfl (Sub.refl _))))))))) hk
              refine o_pure (p_assign (v := .bool (((Rg.shErr (Rg.add l s (ps.take ((min (ps.length : Int) 20).toNat))) (20 : Int)) == 0) && (((Rg.shares (Rg.add l s (ps.take ((min (ps.length : Int) 20).toNat))) (20 : Int)).length : Int) == ((Rg.shares l (20 : Int)).length : Int)))) rfl) rfl rfl rfl ?_
              refine o_nil ?_
              refine q_then ?_
              refine c_ret ?_
              have hr0 : ((((Rg.shErr (Rg.add l s (ps.take ((min (ps.length : Int) 20).toNat))) (20 : Int)) == 0) && (((Rg.shares (Rg.add l s (ps.take ((min (ps.length : Int) 20).toNat))) (20 : Int)).length : Int) == ((Rg.shares l (20 : Int)).length : Int))) : Bool) = true := by
                first | rfl | (have h9 := Rg.shares_bad (l := l) (n := 20) (by assumption); rw [h9]; rfl) | (rw [hg0, hg20, hs20]; rfl)
              refine q_end0 (v := .bool (((Rg.shErr (Rg.add l s (ps.take ((min (ps.length : Int) 20).toNat))) (20 : Int)) == 0) && (((Rg.shares (Rg.add l s (ps.take ((min (ps.length : Int) 20).toNat))) (20 : Int)).length : Int) == ((Rg.shares l (20 : Int)).length : Int)))) (rt1 rfl (r_tmp rfl)) (i := 3) rfl ?_
              exact (by have hcc := congrArg (fun (y0 : Bool) => (.bool y0 : Value)) hr0; exact hcc)
end Go.Proofs.Ytgjdmnljnimamaa
