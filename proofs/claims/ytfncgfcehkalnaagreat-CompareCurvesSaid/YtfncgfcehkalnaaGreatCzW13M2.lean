/- The walks, printed by a program from the translation and a specification. -/
import Derived.Test.YtfncgfcehkalnaaGreatCzF
import Derived.Test.YtfncgfcehkalnaaGreatCpLaw4
import Derived.Test.YtfncgfcehkalnaaGreatCzW5M4
import Derived.Test.YtfncgfcehkalnaaGreatCzW10M3
import Derived.Test.YtfncgfcehkalnaaGreatProg
import Derived.Test.YtfncgfcehkalnaaGreatSx17M11
namespace Go.Proofs.YtfncgfcehkalnaaGreat
open Go.Sx Go.RowKit
set_option maxHeartbeats 8000000 in
set_option maxRecDepth 100000 in
theorem compareCurves_ok (l : List Int) (al : Option Addr) (cl : Nat) (policy : Int) : Fn0 Tryz.prog 4 [.slice al l.length cl, Vi policy] (fun w => Rd tInt w al cl l) (.bool true) := by
 refine fn0 (nt := 62) (F0 := [(0, .slice al l.length cl), (1, Vi policy)]) Tryz.func4 rfl Tryz.ntmps4 rfl rfl (fun w0 hpre => ?_)
 have hl := hpre
 have hlhl := hl.2.1
 refine c_seq (c_region ?_)
 refine o_as rfl rfl ?_
 refine o_nil (q_then (c_seq (c_seq (c_region ?_))))
 refine o_mv rfl rfl ?_
 refine o_p (p_len_slice rfl rfl Tryz.underlying22) ?_
 refine o_p (p_le rfl rfl) ?_
 refine o_nil (q_then ?_)
 refine c_cond rfl (fun hc1 => ?_) (fun hc1 => ?_)
 ·simp only [decide_eq_true_eq] at hc1
  refine c_region ?_
  refine o_mv rfl rfl ?_
  refine o_mv rfl rfl ?_
  refine o_p (p_len_slice rfl rfl Tryz.underlying22) ?_
  refine o_p (p_min (p := (l.length : Int)) (q := 40) rfl rfl) ?_
  refine o_p (p_sliceH (L := l) (T := tInt) (h := (min (l.length : Int) 40)) rfl rfl Tryz.underlying22 sz3 (by omega) (by omega) (rd_base (i := 0) rfl hl)) ?_
  refine o_as rfl rfl ?_
  refine o_nil (q_then (c_seq (c_region ?_)))
  refine o_mv rfl rfl ?_
  refine o_mv rfl rfl ?_
  refine o_callM rfl (cpcurve_ok (l.take ((min (l.length : Int) 40).toNat)) al cl policy) hf13 (fun w hw => (rd_takeC (hi := (min (l.length : Int) 40).toNat) (rd_base (i := 0) rfl hl) (by omega)) w hw) rfl (fun _ _ _ _ ha hA => SlO.agree ha hA) ?_
  rintro ⟨a4, c5⟩ S2
  refine o_know (fun w hw => own_len (i := 0) (T := tInt) hw rfl) (fun hlr6 => ?_)
  refine o_mv rfl rfl ?_
  refine o_ex rfl rfl rfl ?_
  refine o_ex rfl rfl rfl ?_
  refine o_as rfl rfl ?_
  refine o_as rfl rfl ?_
  refine o_nil (q_then (c_seq (c_region ?_)))
  refine o_mv rfl rfl ?_
  refine o_call0 (v := Vi (Lru.trace (l.take ((min (l.length : Int) 40).toNat)))) rfl (traceCheck_ok (l.take ((min (l.length : Int) 40).toNat)) al cl) hf8 (fun w hw => (rd_takeC (hi := (min (l.length : Int) 40).toNat) (rd_base (i := 1) rfl hl) (by omega)) w hw) rfl ?_
  refine o_as rfl rfl ?_
  refine o_nil (q_then (c_seq (c_seq (c_region ?_))))
  refine o_mv rfl rfl ?_
  refine o_p (p_eq rfl rfl) ?_
  refine o_mv rfl rfl ?_
  refine o_and (p := 35) 7 (decide (policy < 1) || decide (5 < policy)) ?_ ?_ ?_
  ·intro hb7 hk
   simp only [beq_iff_eq] at hb7
   refine o_unguard 28 rfl rfl ?_
   refine o_mv rfl rfl ?_
   refine o_unguard 28 rfl rfl ?_
   refine o_p (p_lt rfl rfl) ?_
   refine o_unguard 28 rfl rfl ?_
   refine o_mv rfl rfl ?_
   refine o_or (p := 34) 3 (decide (5 < policy)) ?_ ?_ ?_
   ·intro hb8 hk
    simp only [decide_eq_false_iff_not, Int.not_lt] at hb8
    refine o_unguard 31 rfl rfl ?_
    refine o_mv rfl rfl ?_
    refine o_unguard 31 rfl rfl ?_
    refine o_p (p_gt rfl rfl) ?_
    refine o_unguard 28 rfl rfl ?_
    refine o_pf rfl rfl rfl ?_
    exact o_sub (sr (Sub.skip rfl (Sub.skip rfl (Sub.skip rfl (Sub.skip rfl (Sub.refl _)))))) hk
   ·intro hb8 hk
    refine o_guard_no rfl 31 rfl rfl rfl rfl rfl ?_
    refine o_guard_no rfl 31 rfl rfl rfl rfl rfl ?_
    refine o_unguard 28 rfl rfl ?_
    refine o_pt rfl rfl rfl ?_
    exact o_sub (sr (Sub.skip rfl (Sub.skip rfl (Sub.skip rfl (Sub.skip rfl (Sub.refl _)))))) hk
   refine o_pt rfl rfl rfl ?_
   exact o_sub (sr (Sub.skip rfl (Sub.skip rfl (Sub.skip rfl (Sub.skip rfl (Sub.skip rfl (Sub.refl _))))))) hk
  ·intro hb7 hk
   refine o_guard_no rfl 28 rfl rfl rfl rfl rfl ?_
   refine o_guard_no rfl 28 rfl rfl rfl rfl rfl ?_
   refine o_guard_no rfl 28 rfl rfl rfl rfl rfl ?_
   refine o_guard_no rfl 31 rfl rfl rfl rfl rfl ?_
   refine o_guard_no rfl 31 rfl rfl rfl rfl rfl ?_
   refine o_guard_no rfl 28 rfl rfl rfl rfl rfl ?_
   refine o_pf rfl rfl rfl ?_
   exact o_sub (sr (Sub.skip rfl (Sub.skip rfl (Sub.skip rfl (Sub.skip rfl (Sub.skip rfl (Sub.skip rfl (Sub.skip rfl (Sub.skip rfl (Sub.refl _)))))))))) hk
  refine o_nil (q_then ?_)
  refine c_join (G := Int)
   (fun we => [(0, .slice al (l.take ((min (l.length : Int) 40).toNat)).length cl), (1, Vi policy), (5, .slice a4 (Cmp.curve (l.take ((min (l.length : Int) 40).toNat)) policy).length c5), (6, Vi (Cmp.curveErr (l.take ((min (l.length : Int) 40).toNat)) policy)), (7, Vi we)])
   (fun we => [own tInt S2 a4 c5 (Cmp.curve (l.take ((min (l.length : Int) 40).toNat)) policy), base w0])
   (fun we => we = Cmp.curveErr (l.take ((min (l.length : Int) 40).toNat)) policy)
   (fun K hK9 => ?_) ?_
  ·refine c_cond rfl (fun hc10 => ?_) (fun hc10 => ?_)
   ·simp only [Bool.and_eq_true, beq_iff_eq, Bool.or_eq_true, decide_eq_true_eq] at hc10
    have hjc := hc10
    refine c_region ?_
    refine o_as rfl rfl ?_
    refine o_nil ?_
    refine q_join hK9 7 ?_ (sr (sr (sr (sr (sr (Sub.nil _)))))) (pk [0, 1])
    clear hK9
    first | exact Cmp.cj1 hjc | exact Cmp.cj2 hjc
   ·simp only [Bool.and_eq_false_iff, beq_eq_false_iff_ne, ne_eq, Bool.or_eq_false_iff, decide_eq_false_iff_not, Int.not_lt] at hc10
    have hjc := hc10
    refine c_skip ?_
    refine q_join hK9 (Lru.trace (l.take ((min (l.length : Int) 40).toNat))) ?_ (sr (sr (sr (sr (sr (Sub.nil _)))))) (pk [0, 1])
    clear hK9
    first | exact Cmp.cj1 hjc | exact Cmp.cj2 hjc
  rintro we hj1
  show SQ _ 62 w0 _ _ [(0, .slice al (l.take ((min (l.length : Int) 40).toNat)).length cl), (1, Vi policy), (5, .slice a4 (Cmp.curve (l.take ((min (l.length : Int) 40).toNat)) policy).length c5), (6, Vi (Cmp.curveErr (l.take ((min (l.length : Int) 40).toNat)) policy)), (7, Vi we)] [own tInt S2 a4 c5 (Cmp.curve (l.take ((min (l.length : Int) 40).toNat)) policy), base w0]
  refine q_then (c_seq (c_region ?_))
  refine o_as rfl rfl ?_
  refine o_nil (q_then (c_seq (c_seq (c_region ?_))))
  refine o_as rfl rfl ?_
  refine o_nil (q_then (c_block ?_))
  refine c_ownNil tInt ?_
  refine c_loop (St := List Int × Option Addr × Nat × (Nat → Prop) × Int)
   (fun ⟨want, awant, cwant, Swant, r⟩ => [(0, .slice al (l.take ((min (l.length : Int) 40).toNat)).length cl), (1, Vi policy), (5, .slice a4 (Cmp.curve (l.take ((min (l.length : Int) 40).toNat)) policy).length c5), (6, Vi (Cmp.curveErr (l.take ((min (l.length : Int) 40).toNat)) policy)), (7, Vi we), (8, .slice awant want.length cwant), (9, Vi r)])
   (fun ⟨want, awant, cwant, Swant, r⟩ => [own tInt Swant awant cwant want, own tInt S2 a4 c5 (Cmp.curve (l.take ((min (l.length : Int) 40).toNat)) policy), base w0])
   (fun ⟨want, awant, cwant, Swant, r⟩ => 2 ≤ r ∧ r ≤ 41 ∧ (we ≠ 0 → r = 2) ∧ want = (List.range (r - 2).toNat).map (fun i : Nat => Cmp.by_ (l.take ((min (l.length : Int) 40).toNat)) ((i : Int) + 2) policy))
   (fun ⟨want, awant, cwant, Swant, r⟩ => (41 - r).toNat)
   ([], none, 0, (fun _ => False), 2) ?_ (sr (sr (sr (sr (sr (sr (sr (Sub.nil _)))))))) (fun _ hw => hw) ?_
  ·exact ⟨by omega, by omega, fun _ => rfl, rfl⟩
  rintro ⟨want, awant, cwant, Swant, r⟩ hI K hK12
  have hwl : want.length = (r - 2).toNat := by rw [hI.2.2.2]; simp
  show SC _ _ Tryz.prog 62 w0 _ _ [(0, .slice al (l.take ((min (l.length : Int) 40).toNat)).length cl), (1, Vi policy), (5, .slice a4 (Cmp.curve (l.take ((min (l.length : Int) 40).toNat)) policy).length c5), (6, Vi (Cmp.curveErr (l.take ((min (l.length : Int) 40).toNat)) policy)), (7, Vi we), (8, .slice awant want.length cwant), (9, Vi r)] [own tInt Swant awant cwant want, own tInt S2 a4 c5 (Cmp.curve (l.take ((min (l.length : Int) 40).toNat)) policy), base w0]
  refine c_seq (c_seq (c_region ?_))
  refine o_mv rfl rfl ?_
  refine o_p (p_le rfl rfl) ?_
  refine o_mv rfl rfl ?_
  refine o_and (p := 41) 3 (we == 0) ?_ ?_ ?_
  ·intro hb13 hk
   simp only [decide_eq_true_eq] at hb13
   refine o_unguard 38 rfl rfl ?_
   refine o_mv rfl rfl ?_
   refine o_unguard 38 rfl rfl ?_
   refine o_p (p_eq rfl rfl) ?_
   refine o_pt rfl rfl rfl ?_
   exact o_sub (sr (Sub.skip rfl (Sub.skip rfl (Sub.skip rfl (Sub.skip rfl (Sub.refl _)))))) hk
  ·intro hb13 hk
   refine o_guard_no rfl 38 rfl rfl rfl rfl rfl ?_
   refine o_guard_no rfl 38 rfl rfl rfl rfl rfl ?_
   refine o_pf rfl rfl rfl ?_
   exact o_sub (sr (Sub.skip rfl (Sub.skip rfl (Sub.skip rfl (Sub.skip rfl (Sub.refl _)))))) hk
  refine o_nil (q_then ?_)
  refine c_cond rfl (fun hc14 => ?_) (fun hc14 => ?_)
  ·simp only [Bool.and_eq_true, decide_eq_true_eq, beq_iff_eq] at hc14
   have hgo := hc14
   have hok0 := Cmp.ce_ok.1 (hj1 ▸ hc14.2)
   refine c_skip (q_then (c_seq (c_block (c_region ?_))))
   refine o_mv rfl rfl ?_
   refine o_mv rfl rfl ?_
   refine o_mv rfl rfl ?_
   refine o_mv rfl rfl ?_
   refine o_call0 (v := Vi (Cmp.by_ (l.take ((min (l.length : Int) 40).toNat)) r policy)) rfl (contestHits_ok (l.take ((min (l.length : Int) 40).toNat)) al cl r policy (by first | assumption | exact ⟨hok.1, by omega, by omega⟩ | exact ⟨hok0.1, by omega, by omega⟩)) hf9 (fun w hw => (rd_takeC (hi := (min (l.length : Int) 40).toNat) (rd_base (i := 2) rfl hl) (by omega)) w hw) rfl ?_
   refine o_buildSlice (m := 1) (T := tInt) (L := [(Cmp.by_ (l.take ((min (l.length : Int) 40).toNat)) r policy)]) (vs := [Vi (Cmp.by_ (l.take ((min (l.length : Int) 40).toNat)) r policy)]) rfl rfl rfl rfl Tryz.underlying22 sz3 (by decide) ze3 rfl (by decide) rfl (fun S15 a16 => ?_)
   refine o_append (i := 1) (L := want) (M := [(Cmp.by_ (l.take ((min (l.length : Int) 40).toNat)) r policy)]) (T := tInt) rfl rfl rfl (rd_own (i := 0) rfl) Tryz.underlying22 Tryz.underlying22 (by intro k h; cases h) el3 (by intro z; simp [tInt, one1]) (by decide) (by first | omega | (simp only [List.length_cons, List.length_nil]; omega) | (simp only [List.length_append, List.length_cons, List.length_nil, List.length_take, List.length_drop]; omega)) rfl (fun a18 c19 S20 => ?_)
   refine o_as rfl rfl ?_
   refine o_nil ?_
   refine q_block_normal (q_then ?_)
   refine c_region ?_
   refine o_mv rfl rfl ?_
   refine o_p (p_addb rfl rfl (by omega)) ?_
   refine o_as rfl rfl ?_
   refine o_nil ?_
   refine q_round hK12 ((want ++ [(Cmp.by_ (l.take ((min (l.length : Int) 40).toNat)) r policy)]), a18, c19, S20, (r + 1)) ?_ ?_ ?_ ?_
   ·clear hK12
    exact ⟨by omega, by omega, fun h9 => absurd hgo.2 h9, Cmp.curve_next hI.2.2.2 (by omega)⟩
   ·(try dsimp only); omega
   ·exact sr (sr (sr (sr (sr (sr (sr (Sub.nil _)))))))
   ·exact pk [1, 2, 3]
  ·simp only [Bool.and_eq_false_iff, decide_eq_false_iff_not, Int.not_le, beq_eq_false_iff_ne, ne_eq] at hc14
   have hst := hc14
   refine c_exit ?_
   refine q_then_exit (q_then_exit (q_block_exit (q_then ?_)))
   refine c_seq (c_region ?_)
   refine o_call0 (v := .bool true) rfl (contestBegun_ok ) hf11 (fun _ _ => trivial) rfl ?_
   refine o_mv rfl rfl ?_
   refine o_unguard 52 rfl rfl ?_
   refine o_mv rfl rfl ?_
   refine o_unguard 52 rfl rfl ?_
   refine o_mv rfl rfl ?_
   refine o_unguard 52 rfl rfl ?_
   refine o_call0 (v := .bool (Ref.sameInts (Cmp.curve (l.take ((min (l.length : Int) 40).toNat)) policy) want)) rfl (sameInts_ok (Cmp.curve (l.take ((min (l.length : Int) 40).toNat)) policy) a4 c5 want awant cwant) hf12 (fun w hw => ⟨(rd_own (i := 1) rfl) w hw, (rd_own (i := 0) rfl) w hw⟩) rfl ?_
   refine o_pt rfl rfl rfl ?_
   refine o_mv rfl rfl ?_
   refine o_and (p := 61) 4 ((Cmp.curveErr (l.take ((min (l.length : Int) 40).toNat)) policy) == we) ?_ ?_ ?_
   ·intro hb21 hk
    skip
    refine o_unguard 57 rfl rfl ?_
    refine o_mv rfl rfl ?_
    refine o_unguard 57 rfl rfl ?_
    refine o_mv rfl rfl ?_
    refine o_unguard 57 rfl rfl ?_
    refine o_p (p_eq rfl rfl) ?_
    refine o_pt rfl rfl rfl ?_
    exact o_sub (sr (Sub.skip rfl (Sub.skip rfl (Sub.skip rfl (Sub.skip rfl (Sub.skip rfl (Sub.refl _))))))) hk
   ·intro hb21 hk
    refine o_guard_no rfl 57 rfl rfl rfl rfl rfl ?_
    refine o_guard_no rfl 57 rfl rfl rfl rfl rfl ?_
    refine o_guard_no rfl 57 rfl rfl rfl rfl rfl ?_
    refine o_pf rfl rfl rfl ?_
    exact o_sub (sr (Sub.skip rfl (Sub.skip rfl (Sub.skip rfl (Sub.skip rfl (Sub.skip rfl (Sub.refl _))))))) hk
   refine o_as rfl rfl ?_
   refine o_nil (q_then (c_ret ?_))
   have hr0 : (((Ref.sameInts (Cmp.curve (l.take ((min (l.length : Int) 40).toNat)) policy) want) && ((Cmp.curveErr (l.take ((min (l.length : Int) 40).toNat)) policy) == we)) : Bool) = true := by
    have hq := Cmp.curves_end hj1 hI.1 hI.2.1 hI.2.2.1 hI.2.2.2 hst
    rw [hq, hj1]; simp [Ref.sameInts]
   refine q_end0 (v := .bool ((Ref.sameInts (Cmp.curve (l.take ((min (l.length : Int) 40).toNat)) policy) want) && ((Cmp.curveErr (l.take ((min (l.length : Int) 40).toNat)) policy) == we))) (rt1 rfl (r_tmp rfl)) (i := 2) rfl ?_
   exact (by have hcc := congrArg (fun (y0 : Bool) => (.bool y0 : Value)) hr0; exact hcc)
 ·simp only [decide_eq_false_iff_not, Int.not_le] at hc1
  have hbig : Lru.trace l = 2 := Lru.trace_many (by omega)
  refine c_skip (q_then (c_seq (c_region ?_)))
  refine o_mv rfl rfl ?_
  refine o_mv rfl rfl ?_
  refine o_callM rfl (cpcurve_ok l al cl policy) hf13 (fun w hw => (rd_base (i := 0) rfl hl) w hw) rfl (fun _ _ _ _ ha hA => SlO.agree ha hA) ?_
  rintro ⟨a24, c25⟩ S22
  refine o_know (fun w hw => own_len (i := 0) (T := tInt) hw rfl) (fun hlr26 => ?_)
  refine o_mv rfl rfl ?_
  refine o_ex rfl rfl rfl ?_
  refine o_ex rfl rfl rfl ?_
  refine o_as rfl rfl ?_
  refine o_as rfl rfl ?_
  refine o_nil (q_then (c_seq (c_region ?_)))
  refine o_mv rfl rfl ?_
  refine o_call0 (v := Vi (Lru.trace l)) rfl (traceCheck_ok l al cl) hf8 (fun w hw => (rd_base (i := 1) rfl hl) w hw) rfl ?_
  refine o_as rfl rfl ?_
  refine o_nil (q_then (c_seq (c_seq (c_region ?_))))
  refine o_mv rfl rfl ?_
  refine o_p (p_eq rfl rfl) ?_
  refine o_mv rfl rfl ?_
  refine o_and (p := 35) 7 (decide (policy < 1) || decide (5 < policy)) ?_ ?_ ?_
  ·intro hb27 hk
   simp only [beq_iff_eq] at hb27
   refine o_unguard 28 rfl rfl ?_
   refine o_mv rfl rfl ?_
   refine o_unguard 28 rfl rfl ?_
   refine o_p (p_lt rfl rfl) ?_
   refine o_unguard 28 rfl rfl ?_
   refine o_mv rfl rfl ?_
   refine o_or (p := 34) 3 (decide (5 < policy)) ?_ ?_ ?_
   ·intro hb28 hk
    simp only [decide_eq_false_iff_not, Int.not_lt] at hb28
    refine o_unguard 31 rfl rfl ?_
    refine o_mv rfl rfl ?_
    refine o_unguard 31 rfl rfl ?_
    refine o_p (p_gt rfl rfl) ?_
    refine o_unguard 28 rfl rfl ?_
    refine o_pf rfl rfl rfl ?_
    exact o_sub (sr (Sub.skip rfl (Sub.skip rfl (Sub.skip rfl (Sub.skip rfl (Sub.refl _)))))) hk
   ·intro hb28 hk
    refine o_guard_no rfl 31 rfl rfl rfl rfl rfl ?_
    refine o_guard_no rfl 31 rfl rfl rfl rfl rfl ?_
    refine o_unguard 28 rfl rfl ?_
    refine o_pt rfl rfl rfl ?_
    exact o_sub (sr (Sub.skip rfl (Sub.skip rfl (Sub.skip rfl (Sub.skip rfl (Sub.refl _)))))) hk
   refine o_pt rfl rfl rfl ?_
   exact o_sub (sr (Sub.skip rfl (Sub.skip rfl (Sub.skip rfl (Sub.skip rfl (Sub.skip rfl (Sub.refl _))))))) hk
  ·intro hb27 hk
   refine o_guard_no rfl 28 rfl rfl rfl rfl rfl ?_
   refine o_guard_no rfl 28 rfl rfl rfl rfl rfl ?_
   refine o_guard_no rfl 28 rfl rfl rfl rfl rfl ?_
   refine o_guard_no rfl 31 rfl rfl rfl rfl rfl ?_
   refine o_guard_no rfl 31 rfl rfl rfl rfl rfl ?_
   refine o_guard_no rfl 28 rfl rfl rfl rfl rfl ?_
   refine o_pf rfl rfl rfl ?_
   exact o_sub (sr (Sub.skip rfl (Sub.skip rfl (Sub.skip rfl (Sub.skip rfl (Sub.skip rfl (Sub.skip rfl (Sub.skip rfl (Sub.skip rfl (Sub.refl _)))))))))) hk
  refine o_nil (q_then ?_)
  refine c_join (G := Int)
   (fun we => [(0, .slice al l.length cl), (1, Vi policy), (5, .slice a24 (Cmp.curve l policy).length c25), (6, Vi (Cmp.curveErr l policy)), (7, Vi we)])
   (fun we => [own tInt S22 a24 c25 (Cmp.curve l policy), base w0])
   (fun we => we = Cmp.curveErr l policy)
   (fun K hK29 => ?_) ?_
  ·refine c_cond rfl (fun hc30 => ?_) (fun hc30 => ?_)
   ·simp only [Bool.and_eq_true, beq_iff_eq, Bool.or_eq_true, decide_eq_true_eq] at hc30
    have hjc := hc30
    refine c_region ?_
    refine o_as rfl rfl ?_
    refine o_nil ?_
    refine q_join hK29 7 ?_ (sr (sr (sr (sr (sr (Sub.nil _)))))) (pk [0, 1])
    clear hK29
    first | exact Cmp.cj1 hjc | exact Cmp.cj2 hjc
   ·simp only [Bool.and_eq_false_iff, beq_eq_false_iff_ne, ne_eq, Bool.or_eq_false_iff, decide_eq_false_iff_not, Int.not_lt] at hc30
    have hjc := hc30
    refine c_skip ?_
    refine q_join hK29 (Lru.trace l) ?_ (sr (sr (sr (sr (sr (Sub.nil _)))))) (pk [0, 1])
    clear hK29
    first | exact Cmp.cj1 hjc | exact Cmp.cj2 hjc
  rintro we hj1
  show SQ _ 62 w0 _ _ [(0, .slice al l.length cl), (1, Vi policy), (5, .slice a24 (Cmp.curve l policy).length c25), (6, Vi (Cmp.curveErr l policy)), (7, Vi we)] [own tInt S22 a24 c25 (Cmp.curve l policy), base w0]
  refine q_then (c_seq (c_region ?_))
  refine o_as rfl rfl ?_
  refine o_nil (q_then (c_seq (c_seq (c_region ?_))))
  refine o_as rfl rfl ?_
  refine o_nil (q_then (c_block ?_))
  refine c_ownNil tInt ?_
  refine c_loop (St := List Int × Option Addr × Nat × (Nat → Prop) × Int)
   (fun ⟨want, awant, cwant, Swant, r⟩ => [(0, .slice al l.length cl), (1, Vi policy), (5, .slice a24 (Cmp.curve l policy).length c25), (6, Vi (Cmp.curveErr l policy)), (7, Vi we), (8, .slice awant want.length cwant), (9, Vi r)])
   (fun ⟨want, awant, cwant, Swant, r⟩ => [own tInt Swant awant cwant want, own tInt S22 a24 c25 (Cmp.curve l policy), base w0])
   (fun ⟨want, awant, cwant, Swant, r⟩ => 2 ≤ r ∧ r ≤ 41 ∧ (we ≠ 0 → r = 2) ∧ want = (List.range (r - 2).toNat).map (fun i : Nat => Cmp.by_ l ((i : Int) + 2) policy))
   (fun ⟨want, awant, cwant, Swant, r⟩ => (41 - r).toNat)
   ([], none, 0, (fun _ => False), 2) ?_ (sr (sr (sr (sr (sr (sr (sr (Sub.nil _)))))))) (fun _ hw => hw) ?_
  ·exact ⟨by omega, by omega, fun _ => rfl, rfl⟩
  rintro ⟨want, awant, cwant, Swant, r⟩ hI K hK32
  have hwl : want.length = (r - 2).toNat := by rw [hI.2.2.2]; simp
  show SC _ _ Tryz.prog 62 w0 _ _ [(0, .slice al l.length cl), (1, Vi policy), (5, .slice a24 (Cmp.curve l policy).length c25), (6, Vi (Cmp.curveErr l policy)), (7, Vi we), (8, .slice awant want.length cwant), (9, Vi r)] [own tInt Swant awant cwant want, own tInt S22 a24 c25 (Cmp.curve l policy), base w0]
  refine c_seq (c_seq (c_region ?_))
  refine o_mv rfl rfl ?_
  refine o_p (p_le rfl rfl) ?_
  refine o_mv rfl rfl ?_
  refine o_and (p := 41) 3 (we == 0) ?_ ?_ ?_
  ·intro hb33 hk
   simp only [decide_eq_true_eq] at hb33
   refine o_unguard 38 rfl rfl ?_
   refine o_mv rfl rfl ?_
   refine o_unguard 38 rfl rfl ?_
   refine o_p (p_eq rfl rfl) ?_
   refine o_pt rfl rfl rfl ?_
   exact o_sub (sr (Sub.skip rfl (Sub.skip rfl (Sub.skip rfl (Sub.skip rfl (Sub.refl _)))))) hk
  ·intro hb33 hk
   refine o_guard_no rfl 38 rfl rfl rfl rfl rfl ?_
   refine o_guard_no rfl 38 rfl rfl rfl rfl rfl ?_
   refine o_pf rfl rfl rfl ?_
   exact o_sub (sr (Sub.skip rfl (Sub.skip rfl (Sub.skip rfl (Sub.skip rfl (Sub.refl _)))))) hk
  refine o_nil (q_then ?_)
  refine c_cond rfl (fun hc34 => ?_) (fun hc34 => ?_)
  ·simp only [Bool.and_eq_true, decide_eq_true_eq, beq_iff_eq] at hc34
   have hgo := hc34
   have hok0 := Cmp.ce_ok.1 (hj1 ▸ hc34.2)
   refine c_skip (q_then (c_seq (c_block (c_region ?_))))
   refine o_mv rfl rfl ?_
   refine o_mv rfl rfl ?_
   refine o_mv rfl rfl ?_
   refine o_mv rfl rfl ?_
   refine o_call0 (v := Vi (Cmp.by_ l r policy)) rfl (contestHits_ok l al cl r policy (by first | assumption | exact ⟨hok.1, by omega, by omega⟩ | exact ⟨hok0.1, by omega, by omega⟩)) hf9 (fun w hw => (rd_base (i := 2) rfl hl) w hw) rfl ?_
   refine o_buildSlice (m := 1) (T := tInt) (L := [(Cmp.by_ l r policy)]) (vs := [Vi (Cmp.by_ l r policy)]) rfl rfl rfl rfl Tryz.underlying22 sz3 (by decide) ze3 rfl (by decide) rfl (fun S35 a36 => ?_)
   refine o_append (i := 1) (L := want) (M := [(Cmp.by_ l r policy)]) (T := tInt) rfl rfl rfl (rd_own (i := 0) rfl) Tryz.underlying22 Tryz.underlying22 (by intro k h; cases h) el3 (by intro z; simp [tInt, one1]) (by decide) (by first | omega | (simp only [List.length_cons, List.length_nil]; omega) | (simp only [List.length_append, List.length_cons, List.length_nil, List.length_take, List.length_drop]; omega)) rfl (fun a38 c39 S40 => ?_)
   refine o_as rfl rfl ?_
   refine o_nil ?_
   refine q_block_normal (q_then ?_)
   refine c_region ?_
   refine o_mv rfl rfl ?_
   refine o_p (p_addb rfl rfl (by omega)) ?_
   refine o_as rfl rfl ?_
   refine o_nil ?_
   refine q_round hK32 ((want ++ [(Cmp.by_ l r policy)]), a38, c39, S40, (r + 1)) ?_ ?_ ?_ ?_
   ·clear hK32
    exact ⟨by omega, by omega, fun h9 => absurd hgo.2 h9, Cmp.curve_next hI.2.2.2 (by omega)⟩
   ·(try dsimp only); omega
   ·exact sr (sr (sr (sr (sr (sr (sr (Sub.nil _)))))))
   ·exact pk [1, 2, 3]
  ·simp only [Bool.and_eq_false_iff, decide_eq_false_iff_not, Int.not_le, beq_eq_false_iff_ne, ne_eq] at hc34
   have hst := hc34
   refine c_exit ?_
   refine q_then_exit (q_then_exit (q_block_exit (q_then ?_)))
   refine c_seq (c_region ?_)
   refine o_call0 (v := .bool true) rfl (contestBegun_ok ) hf11 (fun _ _ => trivial) rfl ?_
   refine o_mv rfl rfl ?_
   refine o_unguard 52 rfl rfl ?_
   refine o_mv rfl rfl ?_
   refine o_unguard 52 rfl rfl ?_
   refine o_mv rfl rfl ?_
   refine o_unguard 52 rfl rfl ?_
   refine o_call0 (v := .bool (Ref.sameInts (Cmp.curve l policy) want)) rfl (sameInts_ok (Cmp.curve l policy) a24 c25 want awant cwant) hf12 (fun w hw => ⟨(rd_own (i := 1) rfl) w hw, (rd_own (i := 0) rfl) w hw⟩) rfl ?_
   refine o_pt rfl rfl rfl ?_
   refine o_mv rfl rfl ?_
   refine o_and (p := 61) 4 ((Cmp.curveErr l policy) == we) ?_ ?_ ?_
   ·intro hb41 hk
    skip
    refine o_unguard 57 rfl rfl ?_
    refine o_mv rfl rfl ?_
    refine o_unguard 57 rfl rfl ?_
    refine o_mv rfl rfl ?_
    refine o_unguard 57 rfl rfl ?_
    refine o_p (p_eq rfl rfl) ?_
    refine o_pt rfl rfl rfl ?_
    exact o_sub (sr (Sub.skip rfl (Sub.skip rfl (Sub.skip rfl (Sub.skip rfl (Sub.skip rfl (Sub.refl _))))))) hk
   ·intro hb41 hk
    refine o_guard_no rfl 57 rfl rfl rfl rfl rfl ?_
    refine o_guard_no rfl 57 rfl rfl rfl rfl rfl ?_
    refine o_guard_no rfl 57 rfl rfl rfl rfl rfl ?_
    refine o_pf rfl rfl rfl ?_
    exact o_sub (sr (Sub.skip rfl (Sub.skip rfl (Sub.skip rfl (Sub.skip rfl (Sub.skip rfl (Sub.refl _))))))) hk
   refine o_as rfl rfl ?_
   refine o_nil (q_then (c_ret ?_))
   have hr0 : (((Ref.sameInts (Cmp.curve l policy) want) && ((Cmp.curveErr l policy) == we)) : Bool) = true := by
    have hq := Cmp.curves_end hj1 hI.1 hI.2.1 hI.2.2.1 hI.2.2.2 hst
    rw [hq, hj1]; simp [Ref.sameInts]
   refine q_end0 (v := .bool ((Ref.sameInts (Cmp.curve l policy) want) && ((Cmp.curveErr l policy) == we))) (rt1 rfl (r_tmp rfl)) (i := 2) rfl ?_
   exact (by have hcc := congrArg (fun (y0 : Bool) => (.bool y0 : Value)) hr0; exact hcc)
end Go.Proofs.YtfncgfcehkalnaaGreat

/- How the arguments read. -/
namespace Go.Proofs.YtfncgfcehkalnaaGreat
open Go.ChangeShapes Go.WideShapes Go.ChangeAt Go.RowKit Go.Sx

end Go.Proofs.YtfncgfcehkalnaaGreat
