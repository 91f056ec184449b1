/- The walks, printed by a program from the translation and a specification. -/
import Derived.Test.YtfncgfcehkalnaaGreatCzF
import Derived.Test.YtfncgfcehkalnaaGreatCpLaw3M2
import Derived.Test.YtfncgfcehkalnaaGreatCzW5M4
import Derived.Test.YtfncgfcehkalnaaGreatCzW10M3
import Derived.Test.YtfncgfcehkalnaaGreatCpLaw5
import Derived.Test.YtfncgfcehkalnaaGreatProg
import Derived.Test.YtfncgfcehkalnaaGreatSx17M11
namespace Go.Proofs.YtfncgfcehkalnaaGreat
open Go.Sx Go.RowKit
set_option maxHeartbeats 8000000 in
set_option maxRecDepth 100000 in
theorem compareSpec_ok (l : List Int) (al : Option Addr) (cl : Nat) (room : Int) (policy : Int) : Fn0 Tryz.prog 3 [.slice al l.length cl, Vi room, Vi policy] (fun w => Rd tInt w al cl l) (.bool true) := by
 refine fn0 (nt := 180) (F0 := [(0, .slice al l.length cl), (1, Vi room), (2, Vi policy)]) Tryz.func3 rfl Tryz.ntmps3 rfl rfl (fun w0 hpre => ?_)
 have hl := hpre
 have hlhl := hl.2.1
 refine c_seq (c_region ?_)
 refine o_as rfl rfl ?_
 refine o_nil (q_then (c_seq (c_seq (c_region ?_))))
 refine o_mv rfl rfl ?_
 refine o_p (p_len_slice rfl rfl Tryz.underlying22) ?_
 refine o_p (p_le rfl rfl) ?_
 refine o_nil (q_then ?_)
 refine c_cond rfl (fun hc1 => ?_) (fun hc1 => ?_)
 ·simp only [decide_eq_true_eq] at hc1
  refine c_region ?_
  refine o_mv rfl rfl ?_
  refine o_mv rfl rfl ?_
  refine o_p (p_len_slice rfl rfl Tryz.underlying22) ?_
  refine o_p (p_min (p := (l.length : Int)) (q := 60) rfl rfl) ?_
  refine o_p (p_sliceH (L := l) (T := tInt) (h := (min (l.length : Int) 60)) rfl rfl Tryz.underlying22 sz3 (by omega) (by omega) (rd_base (i := 0) rfl hl)) ?_
  refine o_as rfl rfl ?_
  refine o_nil (q_then (c_seq (c_region ?_)))
  refine o_mv rfl rfl ?_
  refine o_mv rfl rfl ?_
  refine o_callM rfl (cphits_ok (l.take ((min (l.length : Int) 60).toNat)) al cl room) hf5 (fun w hw => (rd_takeC (hi := (min (l.length : Int) 60).toNat) (rd_base (i := 0) rfl hl) (by omega)) w hw) rfl (fun _ _ _ _ ha hA => SlO.agree ha hA) ?_
  rintro ⟨a4, c5⟩ S2
  refine o_know (fun w hw => own_len (i := 0) (T := tInt) hw rfl) (fun hlr6 => ?_)
  refine o_mv rfl rfl ?_
  refine o_ex rfl rfl rfl ?_
  refine o_ex rfl rfl rfl ?_
  refine o_as rfl rfl ?_
  refine o_as rfl rfl ?_
  refine o_nil (q_then (c_seq (c_region ?_)))
  refine o_mv rfl rfl ?_
  refine o_mv rfl rfl ?_
  refine o_callM rfl (cprank_ok (l.take ((min (l.length : Int) 60).toNat)) al cl room) hf6 (fun w hw => (rd_takeC (hi := (min (l.length : Int) 60).toNat) (rd_base (i := 1) rfl hl) (by omega)) w hw) rfl (fun _ _ _ _ ha hA => SlO.agree ha hA) ?_
  rintro ⟨a9, c10⟩ S7
  refine o_know (fun w hw => own_len (i := 0) (T := tInt) hw rfl) (fun hlr11 => ?_)
  refine o_mv rfl rfl ?_
  refine o_ex rfl rfl rfl ?_
  refine o_ex rfl rfl rfl ?_
  refine o_as rfl rfl ?_
  refine o_as rfl rfl ?_
  refine o_nil (q_then (c_seq (c_region ?_)))
  refine o_mv rfl rfl ?_
  refine o_mv rfl rfl ?_
  refine o_mv rfl rfl ?_
  refine o_call0 (v := .tuple #[Vi (Cmp.room (l.take ((min (l.length : Int) 60).toNat)) room policy), Vi (Cmp.roomErr (l.take ((min (l.length : Int) 60).toNat)) room policy)]) rfl (cproom_ok (l.take ((min (l.length : Int) 60).toNat)) al cl room policy) hf7 (fun w hw => (rd_takeC (hi := (min (l.length : Int) 60).toNat) (rd_base (i := 2) rfl hl) (by omega)) w hw) rfl ?_
  refine o_mv rfl rfl ?_
  refine o_ex rfl rfl rfl ?_
  refine o_ex rfl rfl rfl ?_
  refine o_as rfl rfl ?_
  refine o_as rfl rfl ?_
  refine o_nil (q_then (c_seq (c_region ?_)))
  refine o_mv rfl rfl ?_
  refine o_call0 (v := Vi (Lru.trace (l.take ((min (l.length : Int) 60).toNat)))) rfl (traceCheck_ok (l.take ((min (l.length : Int) 60).toNat)) al cl) hf8 (fun w hw => (rd_takeC (hi := (min (l.length : Int) 60).toNat) (rd_base (i := 2) rfl hl) (by omega)) w hw) rfl ?_
  refine o_as rfl rfl ?_
  refine o_nil (q_then (c_seq (c_seq (c_region ?_))))
  refine o_mv rfl rfl ?_
  refine o_p (p_eq rfl rfl) ?_
  refine o_mv rfl rfl ?_
  refine o_and (p := 60) 7 (decide (room < 2) || decide (40 < room)) ?_ ?_ ?_
  ·intro hb12 hk
   simp only [beq_iff_eq] at hb12
   refine o_unguard 53 rfl rfl ?_
   refine o_mv rfl rfl ?_
   refine o_unguard 53 rfl rfl ?_
   refine o_p (p_lt rfl rfl) ?_
   refine o_unguard 53 rfl rfl ?_
   refine o_mv rfl rfl ?_
   refine o_or (p := 59) 3 (decide (40 < room)) ?_ ?_ ?_
   ·intro hb13 hk
    simp only [decide_eq_false_iff_not, Int.not_lt] at hb13
    refine o_unguard 56 rfl rfl ?_
    refine o_mv rfl rfl ?_
    refine o_unguard 56 rfl rfl ?_
    refine o_p (p_gt rfl rfl) ?_
    refine o_unguard 53 rfl rfl ?_
    refine o_pf rfl rfl rfl ?_
    exact o_sub (sr (Sub.skip rfl (Sub.skip rfl (Sub.skip rfl (Sub.skip rfl (Sub.refl _)))))) hk
   ·intro hb13 hk
    refine o_guard_no rfl 56 rfl rfl rfl rfl rfl ?_
    refine o_guard_no rfl 56 rfl rfl rfl rfl rfl ?_
    refine o_unguard 53 rfl rfl ?_
    refine o_pt rfl rfl rfl ?_
    exact o_sub (sr (Sub.skip rfl (Sub.skip rfl (Sub.skip rfl (Sub.skip rfl (Sub.refl _)))))) hk
   refine o_pt rfl rfl rfl ?_
   exact o_sub (sr (Sub.skip rfl (Sub.skip rfl (Sub.skip rfl (Sub.skip rfl (Sub.skip rfl (Sub.refl _))))))) hk
  ·intro hb12 hk
   refine o_guard_no rfl 53 rfl rfl rfl rfl rfl ?_
   refine o_guard_no rfl 53 rfl rfl rfl rfl rfl ?_
   refine o_guard_no rfl 53 rfl rfl rfl rfl rfl ?_
   refine o_guard_no rfl 56 rfl rfl rfl rfl rfl ?_
   refine o_guard_no rfl 56 rfl rfl rfl rfl rfl ?_
   refine o_guard_no rfl 53 rfl rfl rfl rfl rfl ?_
   refine o_pf rfl rfl rfl ?_
   exact o_sub (sr (Sub.skip rfl (Sub.skip rfl (Sub.skip rfl (Sub.skip rfl (Sub.skip rfl (Sub.skip rfl (Sub.skip rfl (Sub.skip rfl (Sub.refl _)))))))))) hk
  refine o_nil (q_then ?_)
  refine c_join (G := Int)
   (fun wf => [(0, .slice al (l.take ((min (l.length : Int) 60).toNat)).length cl), (1, Vi room), (2, Vi policy), (7, .slice a4 (Cmp.hits (l.take ((min (l.length : Int) 60).toNat)) room).length c5), (8, Vi (Cmp.check (l.take ((min (l.length : Int) 60).toNat)) room)), (9, .slice a9 (Cmp.rank (l.take ((min (l.length : Int) 60).toNat)) room).length c10), (10, Vi (Cmp.check (l.take ((min (l.length : Int) 60).toNat)) room)), (11, Vi (Cmp.room (l.take ((min (l.length : Int) 60).toNat)) room policy)), (12, Vi (Cmp.roomErr (l.take ((min (l.length : Int) 60).toNat)) room policy)), (13, Vi wf)])
   (fun wf => [own tInt S7 a9 c10 (Cmp.rank (l.take ((min (l.length : Int) 60).toNat)) room), own tInt S2 a4 c5 (Cmp.hits (l.take ((min (l.length : Int) 60).toNat)) room), base w0])
   (fun wf => wf = Cmp.check (l.take ((min (l.length : Int) 60).toNat)) room)
   (fun K hK14 => ?_) ?_
  ·refine c_cond rfl (fun hc15 => ?_) (fun hc15 => ?_)
   ·simp only [Bool.and_eq_true, beq_iff_eq, Bool.or_eq_true, decide_eq_true_eq] at hc15
    have hja := hc15
    refine c_region ?_
    refine o_as rfl rfl ?_
    refine o_nil ?_
    refine q_join hK14 3 ?_ (sr (sr (sr (sr (sr (sr (sr (sr (sr (sr (Sub.nil _))))))))))) (pk [0, 1, 2])
    clear hK14
    first | exact Cmp.chk1 hja | exact Cmp.chk2 hja
   ·simp only [Bool.and_eq_false_iff, beq_eq_false_iff_ne, ne_eq, Bool.or_eq_false_iff, decide_eq_false_iff_not, Int.not_lt] at hc15
    have hja := hc15
    refine c_skip ?_
    refine q_join hK14 (Lru.trace (l.take ((min (l.length : Int) 60).toNat))) ?_ (sr (sr (sr (sr (sr (sr (sr (sr (sr (sr (Sub.nil _))))))))))) (pk [0, 1, 2])
    clear hK14
    first | exact Cmp.chk1 hja | exact Cmp.chk2 hja
  rintro wf hj1
  show SQ _ 180 w0 _ _ [(0, .slice al (l.take ((min (l.length : Int) 60).toNat)).length cl), (1, Vi room), (2, Vi policy), (7, .slice a4 (Cmp.hits (l.take ((min (l.length : Int) 60).toNat)) room).length c5), (8, Vi (Cmp.check (l.take ((min (l.length : Int) 60).toNat)) room)), (9, .slice a9 (Cmp.rank (l.take ((min (l.length : Int) 60).toNat)) room).length c10), (10, Vi (Cmp.check (l.take ((min (l.length : Int) 60).toNat)) room)), (11, Vi (Cmp.room (l.take ((min (l.length : Int) 60).toNat)) room policy)), (12, Vi (Cmp.roomErr (l.take ((min (l.length : Int) 60).toNat)) room policy)), (13, Vi wf)] [own tInt S7 a9 c10 (Cmp.rank (l.take ((min (l.length : Int) 60).toNat)) room), own tInt S2 a4 c5 (Cmp.hits (l.take ((min (l.length : Int) 60).toNat)) room), base w0]
  refine q_then (c_seq (c_region ?_))
  refine o_mv rfl rfl ?_
  refine o_as rfl rfl ?_
  refine o_as rfl rfl ?_
  refine o_nil (q_then (c_seq (c_seq (c_region ?_))))
  refine o_mv rfl rfl ?_
  refine o_p (p_eq rfl rfl) ?_
  refine o_mv rfl rfl ?_
  refine o_and (p := 71) 7 (decide (policy < 1) || decide (5 < policy)) ?_ ?_ ?_
  ·intro hb16 hk
   simp only [beq_iff_eq] at hb16
   refine o_unguard 64 rfl rfl ?_
   refine o_mv rfl rfl ?_
   refine o_unguard 64 rfl rfl ?_
   refine o_p (p_lt rfl rfl) ?_
   refine o_unguard 64 rfl rfl ?_
   refine o_mv rfl rfl ?_
   refine o_or (p := 70) 3 (decide (5 < policy)) ?_ ?_ ?_
   ·intro hb17 hk
    simp only [decide_eq_false_iff_not, Int.not_lt] at hb17
    refine o_unguard 67 rfl rfl ?_
    refine o_mv rfl rfl ?_
    refine o_unguard 67 rfl rfl ?_
    refine o_p (p_gt rfl rfl) ?_
    refine o_unguard 64 rfl rfl ?_
    refine o_pf rfl rfl rfl ?_
    exact o_sub (sr (Sub.skip rfl (Sub.skip rfl (Sub.skip rfl (Sub.skip rfl (Sub.refl _)))))) hk
   ·intro hb17 hk
    refine o_guard_no rfl 67 rfl rfl rfl rfl rfl ?_
    refine o_guard_no rfl 67 rfl rfl rfl rfl rfl ?_
    refine o_unguard 64 rfl rfl ?_
    refine o_pt rfl rfl rfl ?_
    exact o_sub (sr (Sub.skip rfl (Sub.skip rfl (Sub.skip rfl (Sub.skip rfl (Sub.refl _)))))) hk
   refine o_pt rfl rfl rfl ?_
   exact o_sub (sr (Sub.skip rfl (Sub.skip rfl (Sub.skip rfl (Sub.skip rfl (Sub.skip rfl (Sub.refl _))))))) hk
  ·intro hb16 hk
   refine o_guard_no rfl 64 rfl rfl rfl rfl rfl ?_
   refine o_guard_no rfl 64 rfl rfl rfl rfl rfl ?_
   refine o_guard_no rfl 64 rfl rfl rfl rfl rfl ?_
   refine o_guard_no rfl 67 rfl rfl rfl rfl rfl ?_
   refine o_guard_no rfl 67 rfl rfl rfl rfl rfl ?_
   refine o_guard_no rfl 64 rfl rfl rfl rfl rfl ?_
   refine o_pf rfl rfl rfl ?_
   exact o_sub (sr (Sub.skip rfl (Sub.skip rfl (Sub.skip rfl (Sub.skip rfl (Sub.skip rfl (Sub.skip rfl (Sub.skip rfl (Sub.skip rfl (Sub.refl _)))))))))) hk
  refine o_nil (q_then ?_)
  refine c_join (G := Int)
   (fun vf => [(0, .slice al (l.take ((min (l.length : Int) 60).toNat)).length cl), (1, Vi room), (2, Vi policy), (7, .slice a4 (Cmp.hits (l.take ((min (l.length : Int) 60).toNat)) room).length c5), (8, Vi (Cmp.check (l.take ((min (l.length : Int) 60).toNat)) room)), (9, .slice a9 (Cmp.rank (l.take ((min (l.length : Int) 60).toNat)) room).length c10), (10, Vi (Cmp.check (l.take ((min (l.length : Int) 60).toNat)) room)), (11, Vi (Cmp.room (l.take ((min (l.length : Int) 60).toNat)) room policy)), (12, Vi (Cmp.roomErr (l.take ((min (l.length : Int) 60).toNat)) room policy)), (13, Vi wf), (14, Vi vf), (15, Vi 0)])
   (fun vf => [own tInt S7 a9 c10 (Cmp.rank (l.take ((min (l.length : Int) 60).toNat)) room), own tInt S2 a4 c5 (Cmp.hits (l.take ((min (l.length : Int) 60).toNat)) room), base w0])
   (fun vf => vf = Cmp.roomE (l.take ((min (l.length : Int) 60).toNat)) room policy)
   (fun K hK18 => ?_) ?_
  ·refine c_cond rfl (fun hc19 => ?_) (fun hc19 => ?_)
   ·simp only [Bool.and_eq_true, beq_iff_eq, Bool.or_eq_true, decide_eq_true_eq] at hc19
    have hjb := hc19
    refine c_region ?_
    refine o_as rfl rfl ?_
    refine o_nil ?_
    refine q_join hK18 7 ?_ (sr (sr (sr (sr (sr (sr (sr (sr (sr (sr (sr (sr (Sub.nil _))))))))))))) (pk [0, 1, 2])
    clear hK18
    first | exact Cmp.cj3 hj1 hjb | exact Cmp.cj4 hj1 hjb
   ·simp only [Bool.and_eq_false_iff, beq_eq_false_iff_ne, ne_eq, Bool.or_eq_false_iff, decide_eq_false_iff_not, Int.not_lt] at hc19
    have hjb := hc19
    refine c_skip ?_
    refine q_join hK18 wf ?_ (sr (sr (sr (sr (sr (sr (sr (sr (sr (sr (sr (sr (Sub.nil _))))))))))))) (pk [0, 1, 2])
    clear hK18
    first | exact Cmp.cj3 hj1 hjb | exact Cmp.cj4 hj1 hjb
  rintro vf hj2
  show SQ _ 180 w0 _ _ [(0, .slice al (l.take ((min (l.length : Int) 60).toNat)).length cl), (1, Vi room), (2, Vi policy), (7, .slice a4 (Cmp.hits (l.take ((min (l.length : Int) 60).toNat)) room).length c5), (8, Vi (Cmp.check (l.take ((min (l.length : Int) 60).toNat)) room)), (9, .slice a9 (Cmp.rank (l.take ((min (l.length : Int) 60).toNat)) room).length c10), (10, Vi (Cmp.check (l.take ((min (l.length : Int) 60).toNat)) room)), (11, Vi (Cmp.room (l.take ((min (l.length : Int) 60).toNat)) room policy)), (12, Vi (Cmp.roomErr (l.take ((min (l.length : Int) 60).toNat)) room policy)), (13, Vi wf), (14, Vi vf), (15, Vi 0)] [own tInt S7 a9 c10 (Cmp.rank (l.take ((min (l.length : Int) 60).toNat)) room), own tInt S2 a4 c5 (Cmp.hits (l.take ((min (l.length : Int) 60).toNat)) room), base w0]
  refine q_then (c_seq (c_region ?_))
  refine o_as rfl rfl ?_
  refine o_as rfl rfl ?_
  refine o_nil (q_then (c_seq (c_seq (c_region ?_))))
  refine o_as rfl rfl ?_
  refine o_nil (q_then (c_block ?_))
  refine c_ownNil tInt ?_
  refine c_loop (St := List Int × Option Addr × Nat × (Nat → Prop) × Int)
   (fun ⟨hits, ahits, chits, Shits, k1⟩ => [(0, .slice al (l.take ((min (l.length : Int) 60).toNat)).length cl), (1, Vi room), (2, Vi policy), (7, .slice a4 (Cmp.hits (l.take ((min (l.length : Int) 60).toNat)) room).length c5), (8, Vi (Cmp.check (l.take ((min (l.length : Int) 60).toNat)) room)), (9, .slice a9 (Cmp.rank (l.take ((min (l.length : Int) 60).toNat)) room).length c10), (10, Vi (Cmp.check (l.take ((min (l.length : Int) 60).toNat)) room)), (11, Vi (Cmp.room (l.take ((min (l.length : Int) 60).toNat)) room policy)), (12, Vi (Cmp.roomErr (l.take ((min (l.length : Int) 60).toNat)) room policy)), (13, Vi wf), (14, Vi vf), (15, Vi 0), (16, .slice ahits hits.length chits), (17, .slice none 0 0), (18, Vi k1)])
   (fun ⟨hits, ahits, chits, Shits, k1⟩ => [own tInt Shits ahits chits hits, own tInt S7 a9 c10 (Cmp.rank (l.take ((min (l.length : Int) 60).toNat)) room), own tInt S2 a4 c5 (Cmp.hits (l.take ((min (l.length : Int) 60).toNat)) room), base w0])
   (fun ⟨hits, ahits, chits, Shits, k1⟩ => 1 ≤ k1 ∧ k1 ≤ 6 ∧ (wf ≠ 0 → k1 = 1) ∧ hits = (List.range (k1 - 1).toNat).map (fun i : Nat => Cmp.by_ (l.take ((min (l.length : Int) 60).toNat)) room ((i : Int) + 1)))
   (fun ⟨hits, ahits, chits, Shits, k1⟩ => (6 - k1).toNat)
   ([], none, 0, (fun _ => False), 1) ?_ (sr (sr (sr (sr (sr (sr (sr (sr (sr (sr (sr (sr (sr (sr (sr (Sub.nil _)))))))))))))))) (fun _ hw => hw) ?_
  ·exact ⟨by omega, by omega, fun _ => rfl, rfl⟩
  rintro ⟨hits, ahits, chits, Shits, k1⟩ hI K hK21
  have hhl : hits.length = (k1 - 1).toNat := by rw [hI.2.2.2]; simp
  show SC _ _ Tryz.prog 180 w0 _ _ [(0, .slice al (l.take ((min (l.length : Int) 60).toNat)).length cl), (1, Vi room), (2, Vi policy), (7, .slice a4 (Cmp.hits (l.take ((min (l.length : Int) 60).toNat)) room).length c5), (8, Vi (Cmp.check (l.take ((min (l.length : Int) 60).toNat)) room)), (9, .slice a9 (Cmp.rank (l.take ((min (l.length : Int) 60).toNat)) room).length c10), (10, Vi (Cmp.check (l.take ((min (l.length : Int) 60).toNat)) room)), (11, Vi (Cmp.room (l.take ((min (l.length : Int) 60).toNat)) room policy)), (12, Vi (Cmp.roomErr (l.take ((min (l.length : Int) 60).toNat)) room policy)), (13, Vi wf), (14, Vi vf), (15, Vi 0), (16, .slice ahits hits.length chits), (17, .slice none 0 0), (18, Vi k1)] [own tInt Shits ahits chits hits, own tInt S7 a9 c10 (Cmp.rank (l.take ((min (l.length : Int) 60).toNat)) room), own tInt S2 a4 c5 (Cmp.hits (l.take ((min (l.length : Int) 60).toNat)) room), base w0]
  refine c_seq (c_seq (c_region ?_))
  refine o_mv rfl rfl ?_
  refine o_p (p_le rfl rfl) ?_
  refine o_mv rfl rfl ?_
  refine o_and (p := 77) 3 (wf == 0) ?_ ?_ ?_
  ·intro hb22 hk
   simp only [decide_eq_true_eq] at hb22
   refine o_unguard 74 rfl rfl ?_
   refine o_mv rfl rfl ?_
   refine o_unguard 74 rfl rfl ?_
   refine o_p (p_eq rfl rfl) ?_
   refine o_pt rfl rfl rfl ?_
   exact o_sub (sr (Sub.skip rfl (Sub.skip rfl (Sub.skip rfl (Sub.skip rfl (Sub.refl _)))))) hk
  ·intro hb22 hk
   refine o_guard_no rfl 74 rfl rfl rfl rfl rfl ?_
   refine o_guard_no rfl 74 rfl rfl rfl rfl rfl ?_
   refine o_pf rfl rfl rfl ?_
   exact o_sub (sr (Sub.skip rfl (Sub.skip rfl (Sub.skip rfl (Sub.skip rfl (Sub.refl _)))))) hk
  refine o_nil (q_then ?_)
  refine c_cond rfl (fun hc23 => ?_) (fun hc23 => ?_)
  ·simp only [Bool.and_eq_true, decide_eq_true_eq, beq_iff_eq] at hc23
   have hgo := hc23
   have hok0 := Cmp.chk_ok.1 (hj1 ▸ hc23.2)
   refine c_skip (q_then (c_seq (c_block (c_region ?_))))
   refine o_mv rfl rfl ?_
   refine o_mv rfl rfl ?_
   refine o_mv rfl rfl ?_
   refine o_mv rfl rfl ?_
   refine o_call0 (v := Vi (Cmp.by_ (l.take ((min (l.length : Int) 60).toNat)) room k1)) rfl (contestHits_ok (l.take ((min (l.length : Int) 60).toNat)) al cl room k1 (by first | assumption | exact ⟨hok.1, by omega, by omega⟩ | exact ⟨hok0.1, by omega, by omega⟩)) hf9 (fun w hw => (rd_takeC (hi := (min (l.length : Int) 60).toNat) (rd_base (i := 3) rfl hl) (by omega)) w hw) rfl ?_
   refine o_buildSlice (m := 1) (T := tInt) (L := [(Cmp.by_ (l.take ((min (l.length : Int) 60).toNat)) room k1)]) (vs := [Vi (Cmp.by_ (l.take ((min (l.length : Int) 60).toNat)) room k1)]) rfl rfl rfl rfl Tryz.underlying22 sz3 (by decide) ze3 rfl (by decide) rfl (fun S24 a25 => ?_)
   refine o_append (i := 1) (L := hits) (M := [(Cmp.by_ (l.take ((min (l.length : Int) 60).toNat)) room k1)]) (T := tInt) rfl rfl rfl (rd_own (i := 0) rfl) Tryz.underlying22 Tryz.underlying22 (by intro k h; cases h) el3 (by intro z; simp [tInt, one1]) (by decide) (by first | omega | (simp only [List.length_cons, List.length_nil]; omega) | (simp only [List.length_append, List.length_cons, List.length_nil, List.length_take, List.length_drop]; omega)) rfl (fun a27 c28 S29 => ?_)
   refine o_as rfl rfl ?_
   refine o_nil ?_
   refine q_block_normal (q_then ?_)
   refine c_region ?_
   refine o_mv rfl rfl ?_
   refine o_p (p_addb rfl rfl (by omega)) ?_
   refine o_as rfl rfl ?_
   refine o_nil ?_
   refine q_round hK21 ((hits ++ [(Cmp.by_ (l.take ((min (l.length : Int) 60).toNat)) room k1)]), a27, c28, S29, (k1 + 1)) ?_ ?_ ?_ ?_
   ·clear hK21
    exact ⟨by omega, by omega, fun h9 => absurd hgo.2 h9, Cmp.hits_next hI.2.2.2 (by omega)⟩
   ·(try dsimp only); omega
   ·exact sr (sr (sr (sr (sr (sr (sr (sr (sr (sr (sr (sr (sr (sr (sr (Sub.nil _)))))))))))))))
   ·exact pk [1, 2, 3, 4]
  ·simp only [Bool.and_eq_false_iff, decide_eq_false_iff_not, Int.not_le, beq_eq_false_iff_ne, ne_eq] at hc23
   have hH := Cmp.hits_end hj1 hI.1 hI.2.1 hI.2.2.1 hI.2.2.2 hc23
   have hH5 := Cmp.len_le hH
   refine c_exit ?_
   refine q_then_exit (q_then_exit (q_block_exit (q_then ?_)))
   refine c_seq (c_block ?_)
   refine c_ownNil tInt ?_
   refine c_loop (St := List Int × Option Addr × Nat × (Nat → Prop))
    (fun ⟨order, aorder, corder, Sorder⟩ => [(0, .slice al (l.take ((min (l.length : Int) 60).toNat)).length cl), (2, Vi policy), (7, .slice a4 (Cmp.hits (l.take ((min (l.length : Int) 60).toNat)) room).length c5), (8, Vi (Cmp.check (l.take ((min (l.length : Int) 60).toNat)) room)), (9, .slice a9 (Cmp.rank (l.take ((min (l.length : Int) 60).toNat)) room).length c10), (10, Vi (Cmp.check (l.take ((min (l.length : Int) 60).toNat)) room)), (11, Vi (Cmp.room (l.take ((min (l.length : Int) 60).toNat)) room policy)), (12, Vi (Cmp.roomErr (l.take ((min (l.length : Int) 60).toNat)) room policy)), (13, Vi wf), (14, Vi vf), (15, Vi 0), (16, .slice ahits hits.length chits), (17, .slice aorder order.length corder)])
    (fun ⟨order, aorder, corder, Sorder⟩ => [own tInt Sorder aorder corder order, own tInt Shits ahits chits hits, own tInt S7 a9 c10 (Cmp.rank (l.take ((min (l.length : Int) 60).toNat)) room), own tInt S2 a4 c5 (Cmp.hits (l.take ((min (l.length : Int) 60).toNat)) room), base w0])
    (fun ⟨order, aorder, corder, Sorder⟩ => Cmp.OrdI (l.take ((min (l.length : Int) 60).toNat)) room hits order)
    (fun ⟨order, aorder, corder, Sorder⟩ => hits.length - order.length)
    ([], none, 0, (fun _ => False)) ?_ (sr (sr (sr (sr (sr (sr (sr (sr (sr (sr (sr (sr (sr (Sub.nil _)))))))))))))) (fun _ hw => hw) ?_
   ·exact Cmp.OrdI.start _ _ _
   rintro ⟨order, aorder, corder, Sorder⟩ hI K hK31
   have hO := hI
   have hol := hI.le
   show SC _ _ Tryz.prog 180 w0 _ _ [(0, .slice al (l.take ((min (l.length : Int) 60).toNat)).length cl), (2, Vi policy), (7, .slice a4 (Cmp.hits (l.take ((min (l.length : Int) 60).toNat)) room).length c5), (8, Vi (Cmp.check (l.take ((min (l.length : Int) 60).toNat)) room)), (9, .slice a9 (Cmp.rank (l.take ((min (l.length : Int) 60).toNat)) room).length c10), (10, Vi (Cmp.check (l.take ((min (l.length : Int) 60).toNat)) room)), (11, Vi (Cmp.room (l.take ((min (l.length : Int) 60).toNat)) room policy)), (12, Vi (Cmp.roomErr (l.take ((min (l.length : Int) 60).toNat)) room policy)), (13, Vi wf), (14, Vi vf), (15, Vi 0), (16, .slice ahits hits.length chits), (17, .slice aorder order.length corder)] [own tInt Sorder aorder corder order, own tInt Shits ahits chits hits, own tInt S7 a9 c10 (Cmp.rank (l.take ((min (l.length : Int) 60).toNat)) room), own tInt S2 a4 c5 (Cmp.hits (l.take ((min (l.length : Int) 60).toNat)) room), base w0]
   refine c_seq (c_seq (c_region ?_))
   refine o_mv rfl rfl ?_
   refine o_p (p_len_slice rfl rfl Tryz.underlying22) ?_
   refine o_mv rfl rfl ?_
   refine o_p (p_len_slice rfl rfl Tryz.underlying22) ?_
   refine o_p (p_lt rfl rfl) ?_
   refine o_nil (q_then ?_)
   refine c_cond rfl (fun hc32 => ?_) (fun hc32 => ?_)
   ·simp only [decide_eq_true_eq] at hc32
    have hck := Cmp.chk_of hH (by omega)
    have hH6 : hits.length = 5 := by rw [hH]; exact Cmp.hits_len hck
    refine c_skip (q_then (c_block (c_seq (c_region ?_))))
    refine o_as rfl rfl ?_
    refine o_nil (q_then (c_seq (c_seq (c_region ?_))))
    refine o_as rfl rfl ?_
    refine o_nil (q_then (c_block ?_))
    refine c_loop (St := Int × Int)
     (fun ⟨best, k2⟩ => [(0, .slice al (l.take ((min (l.length : Int) 60).toNat)).length cl), (2, Vi policy), (7, .slice a4 (Cmp.hits (l.take ((min (l.length : Int) 60).toNat)) room).length c5), (8, Vi (Cmp.check (l.take ((min (l.length : Int) 60).toNat)) room)), (9, .slice a9 (Cmp.rank (l.take ((min (l.length : Int) 60).toNat)) room).length c10), (10, Vi (Cmp.check (l.take ((min (l.length : Int) 60).toNat)) room)), (11, Vi (Cmp.room (l.take ((min (l.length : Int) 60).toNat)) room policy)), (12, Vi (Cmp.roomErr (l.take ((min (l.length : Int) 60).toNat)) room policy)), (13, Vi wf), (14, Vi vf), (15, Vi 0), (16, .slice ahits hits.length chits), (17, .slice aorder order.length corder), (19, Vi best), (20, Vi k2)])
     (fun ⟨best, k2⟩ => [own tInt Sorder aorder corder order, own tInt Shits ahits chits hits, own tInt S7 a9 c10 (Cmp.rank (l.take ((min (l.length : Int) 60).toNat)) room), own tInt S2 a4 c5 (Cmp.hits (l.take ((min (l.length : Int) 60).toNat)) room), base w0])
     (fun ⟨best, k2⟩ => Cmp.PI hits order best k2)
     (fun ⟨best, k2⟩ => (6 - k2).toNat)
     (0, 1) ?_ (sr (sr (sr (sr (sr (sr (sr (sr (sr (sr (sr (sr (sr (sr (sr (Sub.nil _)))))))))))))))) (fun _ hw => hw) ?_
    ·exact Cmp.PI.start _ _
    rintro ⟨best, k2⟩ hI K hK33
    have hp0 := hI.lo
    have hp1 := hI.hi
    have hp2 := hI.b0
    have hp3 := hI.b1
    show SC _ _ Tryz.prog 180 w0 _ _ [(0, .slice al (l.take ((min (l.length : Int) 60).toNat)).length cl), (2, Vi policy), (7, .slice a4 (Cmp.hits (l.take ((min (l.length : Int) 60).toNat)) room).length c5), (8, Vi (Cmp.check (l.take ((min (l.length : Int) 60).toNat)) room)), (9, .slice a9 (Cmp.rank (l.take ((min (l.length : Int) 60).toNat)) room).length c10), (10, Vi (Cmp.check (l.take ((min (l.length : Int) 60).toNat)) room)), (11, Vi (Cmp.room (l.take ((min (l.length : Int) 60).toNat)) room policy)), (12, Vi (Cmp.roomErr (l.take ((min (l.length : Int) 60).toNat)) room policy)), (13, Vi wf), (14, Vi vf), (15, Vi 0), (16, .slice ahits hits.length chits), (17, .slice aorder order.length corder), (19, Vi best), (20, Vi k2)] [own tInt Sorder aorder corder order, own tInt Shits ahits chits hits, own tInt S7 a9 c10 (Cmp.rank (l.take ((min (l.length : Int) 60).toNat)) room), own tInt S2 a4 c5 (Cmp.hits (l.take ((min (l.length : Int) 60).toNat)) room), base w0]
    refine c_seq (c_seq (c_region ?_))
    refine o_mv rfl rfl ?_
    refine o_p (p_le rfl rfl) ?_
    refine o_nil (q_then ?_)
    refine c_cond rfl (fun hc34 => ?_) (fun hc34 => ?_)
    ·simp only [decide_eq_true_eq] at hc34
     refine c_skip (q_then (c_seq (c_block (c_seq ?_))))
     refine c_draw hmix (by kernel_rfl) ?_
     refine w_mv rfl rfl ?_
     refine w_mv rfl rfl ?_
     refine w_call0 (v := .bool (Ref.hasInt order k2)) rfl (hasInt_ok order aorder corder k2) hf10 (fun w hw => (rd_own (i := 0) rfl) w hw) rfl ?_
     refine w_p (p_not (b := (Ref.hasInt order k2)) rfl) ?_
     refine w_mv rfl rfl ?_
     refine w_and (p := 116) 16 ((best == 0) || decide ((hits.getD ((best - 1).toNat) default) < (hits.getD ((k2 - 1).toNat) default))) ?_ ?_ ?_
     ·intro hb35 hk
      simp only [Bool.not_eq_true'] at hb35
      refine w_unguard 100 rfl rfl ?_
      refine w_mv rfl rfl ?_
      refine w_unguard 100 rfl rfl ?_
      refine w_p (p_eq rfl rfl) ?_
      refine w_unguard 100 rfl rfl ?_
      refine w_mv rfl rfl ?_
      refine w_or (p := 115) 12 (decide ((hits.getD ((best - 1).toNat) default) < (hits.getD ((k2 - 1).toNat) default))) ?_ ?_ ?_
      ·intro hb36 hk
       simp only [beq_eq_false_iff_ne, ne_eq] at hb36
       refine w_unguard 103 rfl rfl ?_
       refine w_mv rfl rfl ?_
       refine w_unguard 103 rfl rfl ?_
       refine w_mv rfl rfl ?_
       refine w_unguard 103 rfl rfl ?_
       refine w_p (p_subb rfl rfl (by omega)) ?_
       refine w_unguard 103 rfl rfl ?_
       refine w_p (p_indexAddr (L := hits) (T := tInt) (i := (k2 - 1)) rfl rfl (rd_own (i := 1) rfl) Tryz.underlying22 sz3 (by omega) (by omega)) ?_
       refine w_unguard 103 rfl rfl ?_
       refine w_p (p_loadE1 (i := (k2 - 1).toNat) (T := tInt) (L := hits) (v := Vi (hits.getD ((k2 - 1).toNat) default)) rfl (rd_own (i := 1) rfl) (by first | assumption | omega) sh3 (congrArg tInt.enc (getd_at (by first | assumption | omega) default))) ?_
       refine w_unguard 103 rfl rfl ?_
       refine w_mv rfl rfl ?_
       refine w_unguard 103 rfl rfl ?_
       refine w_mv rfl rfl ?_
       refine w_unguard 103 rfl rfl ?_
       refine w_p (p_subb rfl rfl (by omega)) ?_
       refine w_unguard 103 rfl rfl ?_
       refine w_p (p_indexAddr (L := hits) (T := tInt) (i := (best - 1)) rfl rfl (rd_own (i := 1) rfl) Tryz.underlying22 sz3 (by omega) (by omega)) ?_
       refine w_unguard 103 rfl rfl ?_
       refine w_p (p_loadE1 (i := (best - 1).toNat) (T := tInt) (L := hits) (v := Vi (hits.getD ((best - 1).toNat) default)) rfl (rd_own (i := 1) rfl) (by first | assumption | omega) sh3 (congrArg tInt.enc (getd_at (by first | assumption | omega) default))) ?_
       refine w_unguard 103 rfl rfl ?_
       refine w_p (p_gt rfl rfl) ?_
       refine w_unguard 100 rfl rfl ?_
       refine w_pf rfl rfl rfl ?_
       exact w_sub (sr (Sub.skip rfl (Sub.skip rfl (Sub.skip rfl (Sub.skip rfl (Sub.skip rfl (Sub.skip rfl (Sub.skip rfl (Sub.skip rfl (Sub.skip rfl (Sub.skip rfl (Sub.skip rfl (Sub.skip rfl (Sub.skip rfl (Sub.refl _))))))))))))))) hk
      ·intro hb36 hk
       refine w_guard_no rfl 103 rfl rfl rfl rfl rfl ?_
       refine w_guard_no rfl 103 rfl rfl rfl rfl rfl ?_
       refine w_guard_no rfl 103 rfl rfl rfl rfl rfl ?_
       refine w_guard_no rfl 103 rfl rfl rfl rfl rfl ?_
       refine w_guard_no rfl 103 rfl rfl rfl rfl rfl ?_
       refine w_guard_no rfl 103 rfl rfl rfl rfl rfl ?_
       refine w_guard_no rfl 103 rfl rfl rfl rfl rfl ?_
       refine w_guard_no rfl 103 rfl rfl rfl rfl rfl ?_
       refine w_guard_no rfl 103 rfl rfl rfl rfl rfl ?_
       refine w_guard_no rfl 103 rfl rfl rfl rfl rfl ?_
       refine w_guard_no rfl 103 rfl rfl rfl rfl rfl ?_
       refine w_unguard 100 rfl rfl ?_
       refine w_pt rfl rfl rfl ?_
       exact w_sub (sr (Sub.skip rfl (Sub.skip rfl (Sub.skip rfl (Sub.skip rfl (Sub.skip rfl (Sub.skip rfl (Sub.skip rfl (Sub.skip rfl (Sub.skip rfl (Sub.skip rfl (Sub.skip rfl (Sub.skip rfl (Sub.skip rfl (Sub.refl _))))))))))))))) hk
      refine w_pt rfl rfl rfl ?_
      exact w_sub (sr (Sub.skip rfl (Sub.skip rfl (Sub.skip rfl (Sub.skip rfl (Sub.skip rfl (Sub.refl _))))))) hk
     ·intro hb35 hk
      refine w_guard_no rfl 100 rfl rfl rfl rfl rfl ?_
      refine w_guard_no rfl 100 rfl rfl rfl rfl rfl ?_
      refine w_guard_no rfl 100 rfl rfl rfl rfl rfl ?_
      refine w_guard_no rfl 103 rfl rfl rfl rfl rfl ?_
      refine w_guard_no rfl 103 rfl rfl rfl rfl rfl ?_
      refine w_guard_no rfl 103 rfl rfl rfl rfl rfl ?_
      refine w_guard_no rfl 103 rfl rfl rfl rfl rfl ?_
      refine w_guard_no rfl 103 rfl rfl rfl rfl rfl ?_
      refine w_guard_no rfl 103 rfl rfl rfl rfl rfl ?_
      refine w_guard_no rfl 103 rfl rfl rfl rfl rfl ?_
      refine w_guard_no rfl 103 rfl rfl rfl rfl rfl ?_
      refine w_guard_no rfl 103 rfl rfl rfl rfl rfl ?_
      refine w_guard_no rfl 103 rfl rfl rfl rfl rfl ?_
      refine w_guard_no rfl 103 rfl rfl rfl rfl rfl ?_
      refine w_guard_no rfl 100 rfl rfl rfl rfl rfl ?_
      refine w_pf rfl rfl rfl ?_
      exact w_sub (sr (Sub.skip rfl (Sub.skip rfl (Sub.skip rfl (Sub.skip rfl (Sub.skip rfl (Sub.skip rfl (Sub.skip rfl (Sub.skip rfl (Sub.skip rfl (Sub.skip rfl (Sub.skip rfl (Sub.skip rfl (Sub.skip rfl (Sub.skip rfl (Sub.skip rfl (Sub.skip rfl (Sub.skip rfl (Sub.refl _))))))))))))))))))) hk
     refine w_nil (q_then ?_)
     refine c_cond rfl (fun hc37 => ?_) (fun hc37 => ?_)
     ·simp only [Bool.and_eq_true, Bool.not_eq_true', Bool.or_eq_true, beq_iff_eq, decide_eq_true_eq] at hc37
      have hpk := hc37
      refine c_region ?_
      refine o_mv rfl rfl ?_
      refine o_as rfl rfl ?_
      refine o_nil ?_
      refine q_block_normal (q_then ?_)
      refine c_region ?_
      refine o_mv rfl rfl ?_
      refine o_p (p_addb rfl rfl (by omega)) ?_
      refine o_as rfl rfl ?_
      refine o_nil ?_
      refine q_round hK33 (k2, (k2 + 1)) ?_ ?_ ?_ ?_
      ·clear hK33
       first | exact hI.take_ (by omega) hpk.1 hpk.2 | exact hI.skip (by omega) hpk
      ·(try dsimp only); omega
      ·exact sr (sr (sr (sr (sr (sr (sr (sr (sr (sr (sr (sr (sr (sr (sr (Sub.nil _)))))))))))))))
      ·exact pk [0, 1, 2, 3, 4]
     ·simp only [Bool.and_eq_false_iff, Bool.not_eq_false', Bool.or_eq_false_iff, beq_eq_false_iff_ne, ne_eq, decide_eq_false_iff_not, Int.not_lt] at hc37
      have hpk := hc37
      refine c_skip ?_
      refine q_block_normal (q_then ?_)
      refine c_region ?_
      refine o_mv rfl rfl ?_
      refine o_p (p_addb rfl rfl (by omega)) ?_
      refine o_as rfl rfl ?_
      refine o_nil ?_
      refine q_round hK33 (best, (k2 + 1)) ?_ ?_ ?_ ?_
      ·clear hK33
       first | exact hI.take_ (by omega) hpk.1 hpk.2 | exact hI.skip (by omega) hpk
      ·(try dsimp only); omega
      ·exact sr (sr (sr (sr (sr (sr (sr (sr (sr (sr (sr (sr (sr (sr (sr (Sub.nil _)))))))))))))))
      ·exact pk [0, 1, 2, 3, 4]
    ·simp only [decide_eq_false_iff_not, Int.not_le] at hc34
     refine c_exit ?_
     refine q_then_exit (q_then_exit (q_block_exit (q_then ?_)))
     refine c_region ?_
     refine o_mv rfl rfl ?_
     refine o_mv rfl rfl ?_
     refine o_buildSlice (m := 1) (T := tInt) (L := [best]) (vs := [Vi best]) rfl rfl rfl rfl Tryz.underlying22 sz3 (by decide) ze3 rfl (by decide) rfl (fun S38 a39 => ?_)
     refine o_append (i := 1) (L := order) (M := [best]) (T := tInt) rfl rfl rfl (rd_own (i := 0) rfl) Tryz.underlying22 Tryz.underlying22 (by intro k h; cases h) el3 (by intro z; simp [tInt, one1]) (by decide) (by first | omega | (simp only [List.length_cons, List.length_nil]; omega) | (simp only [List.length_append, List.length_cons, List.length_nil, List.length_take, List.length_drop]; omega)) rfl (fun a41 c42 S43 => ?_)
     refine o_as rfl rfl ?_
     refine o_nil ?_
     refine q_block_normal ?_
     refine q_round hK31 ((order ++ [best]), a41, c42, S43) ?_ ?_ ?_ ?_
     ·clear hK31
      exact hO.next hH (by omega) hI (by omega)
     ·(try dsimp only); simp only [List.length_append, List.length_cons, List.length_nil]; omega
     ·exact sr (sr (sr (sr (sr (sr (sr (sr (sr (sr (sr (sr (sr (Sub.nil _)))))))))))))
     ·exact pk [1, 2, 3, 4, 5]
   ·simp only [decide_eq_false_iff_not, Int.not_lt] at hc32
    have hrk := hI.done hH (by omega)
    refine c_exit ?_
    refine q_then_exit (q_then_exit (q_block_exit (q_then ?_)))
    refine c_seq (c_seq (c_region ?_))
    refine o_as rfl rfl ?_
    refine o_nil (q_then (c_block ?_))
    refine c_loop (St := Int × Int)
     (fun ⟨least, r⟩ => [(0, .slice al (l.take ((min (l.length : Int) 60).toNat)).length cl), (2, Vi policy), (7, .slice a4 (Cmp.hits (l.take ((min (l.length : Int) 60).toNat)) room).length c5), (8, Vi (Cmp.check (l.take ((min (l.length : Int) 60).toNat)) room)), (9, .slice a9 (Cmp.rank (l.take ((min (l.length : Int) 60).toNat)) room).length c10), (10, Vi (Cmp.check (l.take ((min (l.length : Int) 60).toNat)) room)), (11, Vi (Cmp.room (l.take ((min (l.length : Int) 60).toNat)) room policy)), (12, Vi (Cmp.roomErr (l.take ((min (l.length : Int) 60).toNat)) room policy)), (13, Vi wf), (14, Vi vf), (15, Vi least), (16, .slice ahits hits.length chits), (17, .slice aorder order.length corder), (21, Vi r)])
     (fun ⟨least, r⟩ => [own tInt Sorder aorder corder order, own tInt Shits ahits chits hits, own tInt S7 a9 c10 (Cmp.rank (l.take ((min (l.length : Int) 60).toNat)) room), own tInt S2 a4 c5 (Cmp.hits (l.take ((min (l.length : Int) 60).toNat)) room), base w0])
     (fun ⟨least, r⟩ => Cmp.LI (l.take ((min (l.length : Int) 60).toNat)) policy (hits.getD 4 default) vf r least)
     (fun ⟨least, r⟩ => (41 - r).toNat)
     (0, 2) ?_ (sr (sr (sr (sr (sr (sr (sr (sr (sr (sr (sr (sr (sr (sr (Sub.nil _))))))))))))))) (fun _ hw => hw) ?_
    ·exact Cmp.LI.start _ _ _ _
    rintro ⟨least, r⟩ hI K hK44
    have hlo := hI.lo
    have hhi := hI.hi
    show SC _ _ Tryz.prog 180 w0 _ _ [(0, .slice al (l.take ((min (l.length : Int) 60).toNat)).length cl), (2, Vi policy), (7, .slice a4 (Cmp.hits (l.take ((min (l.length : Int) 60).toNat)) room).length c5), (8, Vi (Cmp.check (l.take ((min (l.length : Int) 60).toNat)) room)), (9, .slice a9 (Cmp.rank (l.take ((min (l.length : Int) 60).toNat)) room).length c10), (10, Vi (Cmp.check (l.take ((min (l.length : Int) 60).toNat)) room)), (11, Vi (Cmp.room (l.take ((min (l.length : Int) 60).toNat)) room policy)), (12, Vi (Cmp.roomErr (l.take ((min (l.length : Int) 60).toNat)) room policy)), (13, Vi wf), (14, Vi vf), (15, Vi least), (16, .slice ahits hits.length chits), (17, .slice aorder order.length corder), (21, Vi r)] [own tInt Sorder aorder corder order, own tInt Shits ahits chits hits, own tInt S7 a9 c10 (Cmp.rank (l.take ((min (l.length : Int) 60).toNat)) room), own tInt S2 a4 c5 (Cmp.hits (l.take ((min (l.length : Int) 60).toNat)) room), base w0]
    refine c_seq (c_seq (c_region ?_))
    refine o_mv rfl rfl ?_
    refine o_p (p_le rfl rfl) ?_
    refine o_mv rfl rfl ?_
    refine o_and (p := 127) 3 (vf == 0) ?_ ?_ ?_
    ·intro hb45 hk
     simp only [decide_eq_true_eq] at hb45
     refine o_unguard 124 rfl rfl ?_
     refine o_mv rfl rfl ?_
     refine o_unguard 124 rfl rfl ?_
     refine o_p (p_eq rfl rfl) ?_
     refine o_pt rfl rfl rfl ?_
     exact o_sub (sr (Sub.skip rfl (Sub.skip rfl (Sub.skip rfl (Sub.skip rfl (Sub.refl _)))))) hk
    ·intro hb45 hk
     refine o_guard_no rfl 124 rfl rfl rfl rfl rfl ?_
     refine o_guard_no rfl 124 rfl rfl rfl rfl rfl ?_
     refine o_pf rfl rfl rfl ?_
     exact o_sub (sr (Sub.skip rfl (Sub.skip rfl (Sub.skip rfl (Sub.skip rfl (Sub.refl _)))))) hk
    refine o_mv rfl rfl ?_
    refine o_and (p := 131) 3 (least == 0) ?_ ?_ ?_
    ·intro hb46 hk
     simp only [Bool.and_eq_true, decide_eq_true_eq, beq_iff_eq] at hb46
     refine o_unguard 128 rfl rfl ?_
     refine o_mv rfl rfl ?_
     refine o_unguard 128 rfl rfl ?_
     refine o_p (p_eq rfl rfl) ?_
     refine o_pt rfl rfl rfl ?_
     exact o_sub (sr (Sub.skip rfl (Sub.skip rfl (Sub.skip rfl (Sub.skip rfl (Sub.refl _)))))) hk
    ·intro hb46 hk
     refine o_guard_no rfl 128 rfl rfl rfl rfl rfl ?_
     refine o_guard_no rfl 128 rfl rfl rfl rfl rfl ?_
     refine o_pf rfl rfl rfl ?_
     exact o_sub (sr (Sub.skip rfl (Sub.skip rfl (Sub.skip rfl (Sub.skip rfl (Sub.refl _)))))) hk
    refine o_nil (q_then ?_)
    refine c_cond rfl (fun hc47 => ?_) (fun hc47 => ?_)
    ·simp only [Bool.and_eq_true, decide_eq_true_eq, beq_iff_eq] at hc47
     have hgo := hc47
     have hre := Cmp.re_ok.1 (hj2 ▸ hc47.1.2)
     have hok0 := Cmp.chk_ok.1 hre.1
     have hH6 : hits.length = 5 := by rw [hH]; exact Cmp.hits_len hre.1
     refine c_skip (q_then (c_seq (c_block (c_seq ?_))))
     refine c_draw hmix (by kernel_rfl) ?_
     refine w_mv rfl rfl ?_
     refine w_mv rfl rfl ?_
     refine w_mv rfl rfl ?_
     refine w_call0 (v := Vi (Cmp.by_ (l.take ((min (l.length : Int) 60).toNat)) r policy)) rfl (contestHits_ok (l.take ((min (l.length : Int) 60).toNat)) al cl r policy (by first | assumption | exact ⟨hok.1, by omega, by omega⟩ | exact ⟨hok0.1, by omega, by omega⟩)) hf9 (fun w hw => (rd_takeC (hi := (min (l.length : Int) 60).toNat) (rd_base (i := 4) rfl hl) (by omega)) w hw) rfl ?_
     refine w_mv rfl rfl ?_
     refine w_p (p_indexAddr (L := hits) (T := tInt) (i := 4) rfl rfl (rd_own (i := 1) rfl) Tryz.underlying22 sz3 (by omega) (by omega)) ?_
     refine w_p (p_loadE1 (i := 4) (T := tInt) (L := hits) (v := Vi (hits.getD 4 default)) rfl (rd_own (i := 1) rfl) (by first | assumption | omega) sh3 (congrArg tInt.enc (getd_at (by first | assumption | omega) default))) ?_
     refine w_p (p_ge rfl rfl) ?_
     refine w_nil (q_then ?_)
     refine c_cond rfl (fun hc48 => ?_) (fun hc48 => ?_)
     ·simp only [decide_eq_true_eq] at hc48
      refine c_region ?_
      refine o_mv rfl rfl ?_
      refine o_as rfl rfl ?_
      refine o_nil ?_
      refine q_block_normal (q_then ?_)
      refine c_region ?_
      refine o_mv rfl rfl ?_
      refine o_p (p_addb rfl rfl (by omega)) ?_
      refine o_as rfl rfl ?_
      refine o_nil ?_
      refine q_round hK44 (r, (r + 1)) ?_ ?_ ?_ ?_
      ·clear hK44
       first | exact hI.take_ (by omega) hgo.1.2 hgo.2 (by omega) | exact hI.skip (by omega) hgo.1.2 hgo.2 (by omega)
      ·(try dsimp only); omega
      ·exact sr (sr (sr (sr (sr (sr (sr (sr (sr (sr (sr (sr (sr (sr (Sub.nil _))))))))))))))
      ·exact pk [0, 1, 2, 3, 4]
     ·simp only [decide_eq_false_iff_not, Int.not_le] at hc48
      refine c_skip ?_
      refine q_block_normal (q_then ?_)
      refine c_region ?_
      refine o_mv rfl rfl ?_
      refine o_p (p_addb rfl rfl (by omega)) ?_
      refine o_as rfl rfl ?_
      refine o_nil ?_
      refine q_round hK44 (least, (r + 1)) ?_ ?_ ?_ ?_
      ·clear hK44
       first | exact hI.take_ (by omega) hgo.1.2 hgo.2 (by omega) | exact hI.skip (by omega) hgo.1.2 hgo.2 (by omega)
      ·(try dsimp only); omega
      ·exact sr (sr (sr (sr (sr (sr (sr (sr (sr (sr (sr (sr (sr (sr (Sub.nil _))))))))))))))
      ·exact pk [0, 1, 2, 3, 4]
    ·simp only [Bool.and_eq_false_iff, decide_eq_false_iff_not, Int.not_le, beq_eq_false_iff_ne, ne_eq] at hc47
     have hrf := Cmp.room_fin hj2 (hH ▸ hI) hc47
     refine c_exit ?_
     refine q_then_exit (q_then_exit (q_block_exit (q_then ?_)))
     refine c_seq (c_seq (c_region ?_))
     refine o_mv rfl rfl ?_
     refine o_p (p_eq rfl rfl) ?_
     refine o_mv rfl rfl ?_
     refine o_and (p := 148) 3 (least == 0) ?_ ?_ ?_
     ·intro hb49 hk
      simp only [beq_iff_eq] at hb49
      refine o_unguard 145 rfl rfl ?_
      refine o_mv rfl rfl ?_
      refine o_unguard 145 rfl rfl ?_
      refine o_p (p_eq rfl rfl) ?_
      refine o_pt rfl rfl rfl ?_
      exact o_sub (sr (Sub.skip rfl (Sub.skip rfl (Sub.skip rfl (Sub.skip rfl (Sub.refl _)))))) hk
     ·intro hb49 hk
      refine o_guard_no rfl 145 rfl rfl rfl rfl rfl ?_
      refine o_guard_no rfl 145 rfl rfl rfl rfl rfl ?_
      refine o_pf rfl rfl rfl ?_
      exact o_sub (sr (Sub.skip rfl (Sub.skip rfl (Sub.skip rfl (Sub.skip rfl (Sub.refl _)))))) hk
     refine o_nil (q_then ?_)
     refine c_join (G := Int)
      (fun ve => [(7, .slice a4 (Cmp.hits (l.take ((min (l.length : Int) 60).toNat)) room).length c5), (8, Vi (Cmp.check (l.take ((min (l.length : Int) 60).toNat)) room)), (9, .slice a9 (Cmp.rank (l.take ((min (l.length : Int) 60).toNat)) room).length c10), (10, Vi (Cmp.check (l.take ((min (l.length : Int) 60).toNat)) room)), (11, Vi (Cmp.room (l.take ((min (l.length : Int) 60).toNat)) room policy)), (12, Vi (Cmp.roomErr (l.take ((min (l.length : Int) 60).toNat)) room policy)), (13, Vi wf), (14, Vi ve), (15, Vi least), (16, .slice ahits hits.length chits), (17, .slice aorder order.length corder)])
      (fun ve => [own tInt Sorder aorder corder order, own tInt Shits ahits chits hits, own tInt S7 a9 c10 (Cmp.rank (l.take ((min (l.length : Int) 60).toNat)) room), own tInt S2 a4 c5 (Cmp.hits (l.take ((min (l.length : Int) 60).toNat)) room), base w0])
      (fun ve => ve = Cmp.roomErr (l.take ((min (l.length : Int) 60).toNat)) room policy)
      (fun K hK50 => ?_) ?_
     ·refine c_cond rfl (fun hc51 => ?_) (fun hc51 => ?_)
      ·simp only [Bool.and_eq_true, beq_iff_eq] at hc51
       have hjc := hc51
       refine c_region ?_
       refine o_as rfl rfl ?_
       refine o_nil ?_
       refine q_join hK50 5 ?_ (sr (sr (sr (sr (sr (sr (sr (sr (sr (sr (sr (Sub.nil _)))))))))))) (pk [0, 1, 2, 3, 4])
       clear hK50
       first | exact hrf.1 hjc | exact hrf.2.1 hjc
      ·simp only [Bool.and_eq_false_iff, beq_eq_false_iff_ne, ne_eq] at hc51
       have hjc := hc51
       refine c_skip ?_
       refine q_join hK50 vf ?_ (sr (sr (sr (sr (sr (sr (sr (sr (sr (sr (sr (Sub.nil _)))))))))))) (pk [0, 1, 2, 3, 4])
       clear hK50
       first | exact hrf.1 hjc | exact hrf.2.1 hjc
     rintro ve hj3
     show SQ _ 180 w0 _ _ [(7, .slice a4 (Cmp.hits (l.take ((min (l.length : Int) 60).toNat)) room).length c5), (8, Vi (Cmp.check (l.take ((min (l.length : Int) 60).toNat)) room)), (9, .slice a9 (Cmp.rank (l.take ((min (l.length : Int) 60).toNat)) room).length c10), (10, Vi (Cmp.check (l.take ((min (l.length : Int) 60).toNat)) room)), (11, Vi (Cmp.room (l.take ((min (l.length : Int) 60).toNat)) room policy)), (12, Vi (Cmp.roomErr (l.take ((min (l.length : Int) 60).toNat)) room policy)), (13, Vi wf), (14, Vi ve), (15, Vi least), (16, .slice ahits hits.length chits), (17, .slice aorder order.length corder)] [own tInt Sorder aorder corder order, own tInt Shits ahits chits hits, own tInt S7 a9 c10 (Cmp.rank (l.take ((min (l.length : Int) 60).toNat)) room), own tInt S2 a4 c5 (Cmp.hits (l.take ((min (l.length : Int) 60).toNat)) room), base w0]
     refine q_then (c_seq (c_region ?_))
     refine o_call0 (v := .bool true) rfl (contestBegun_ok ) hf11 (fun _ _ => trivial) rfl ?_
     refine o_mv rfl rfl ?_
     refine o_unguard 150 rfl rfl ?_
     refine o_mv rfl rfl ?_
     refine o_unguard 150 rfl rfl ?_
     refine o_mv rfl rfl ?_
     refine o_unguard 150 rfl rfl ?_
     refine o_call0 (v := .bool (Ref.sameInts (Cmp.hits (l.take ((min (l.length : Int) 60).toNat)) room) hits)) rfl (sameInts_ok (Cmp.hits (l.take ((min (l.length : Int) 60).toNat)) room) a4 c5 hits ahits chits) hf12 (fun w hw => ⟨(rd_own (i := 3) rfl) w hw, (rd_own (i := 1) rfl) w hw⟩) rfl ?_
     refine o_pt rfl rfl rfl ?_
     refine o_mv rfl rfl ?_
     refine o_and (p := 159) 4 ((Cmp.check (l.take ((min (l.length : Int) 60).toNat)) room) == wf) ?_ ?_ ?_
     ·intro hb52 hk
      skip
      refine o_unguard 155 rfl rfl ?_
      refine o_mv rfl rfl ?_
      refine o_unguard 155 rfl rfl ?_
      refine o_mv rfl rfl ?_
      refine o_unguard 155 rfl rfl ?_
      refine o_p (p_eq rfl rfl) ?_
      refine o_pt rfl rfl rfl ?_
      exact o_sub (sr (Sub.skip rfl (Sub.skip rfl (Sub.skip rfl (Sub.skip rfl (Sub.skip rfl (Sub.refl _))))))) hk
     ·intro hb52 hk
      refine o_guard_no rfl 155 rfl rfl rfl rfl rfl ?_
      refine o_guard_no rfl 155 rfl rfl rfl rfl rfl ?_
      refine o_guard_no rfl 155 rfl rfl rfl rfl rfl ?_
      refine o_pf rfl rfl rfl ?_
      exact o_sub (sr (Sub.skip rfl (Sub.skip rfl (Sub.skip rfl (Sub.skip rfl (Sub.skip rfl (Sub.refl _))))))) hk
     refine o_mv rfl rfl ?_
     refine o_and (p := 164) 4 (Ref.sameInts (Cmp.rank (l.take ((min (l.length : Int) 60).toNat)) room) order) ?_ ?_ ?_
     ·intro hb53 hk
      simp only [Bool.and_eq_true, beq_iff_eq] at hb53
      refine o_unguard 160 rfl rfl ?_
      refine o_mv rfl rfl ?_
      refine o_unguard 160 rfl rfl ?_
      refine o_mv rfl rfl ?_
      refine o_unguard 160 rfl rfl ?_
      refine o_call0 (v := .bool (Ref.sameInts (Cmp.rank (l.take ((min (l.length : Int) 60).toNat)) room) order)) rfl (sameInts_ok (Cmp.rank (l.take ((min (l.length : Int) 60).toNat)) room) a9 c10 order aorder corder) hf12 (fun w hw => ⟨(rd_own (i := 2) rfl) w hw, (rd_own (i := 0) rfl) w hw⟩) rfl ?_
      refine o_pt rfl rfl rfl ?_
      exact o_sub (sr (Sub.skip rfl (Sub.skip rfl (Sub.skip rfl (Sub.skip rfl (Sub.skip rfl (Sub.refl _))))))) hk
     ·intro hb53 hk
      refine o_guard_no rfl 160 rfl rfl rfl rfl rfl ?_
      refine o_guard_no rfl 160 rfl rfl rfl rfl rfl ?_
      refine o_guard_no rfl 160 rfl rfl rfl rfl rfl ?_
      refine o_pf rfl rfl rfl ?_
      exact o_sub (sr (Sub.skip rfl (Sub.skip rfl (Sub.skip rfl (Sub.skip rfl (Sub.skip rfl (Sub.refl _))))))) hk
     refine o_mv rfl rfl ?_
     refine o_and (p := 169) 4 ((Cmp.check (l.take ((min (l.length : Int) 60).toNat)) room) == wf) ?_ ?_ ?_
     ·intro hb54 hk
      simp only [Bool.and_eq_true, beq_iff_eq] at hb54
      refine o_unguard 165 rfl rfl ?_
      refine o_mv rfl rfl ?_
      refine o_unguard 165 rfl rfl ?_
      refine o_mv rfl rfl ?_
      refine o_unguard 165 rfl rfl ?_
      refine o_p (p_eq rfl rfl) ?_
      refine o_pt rfl rfl rfl ?_
      exact o_sub (sr (Sub.skip rfl (Sub.skip rfl (Sub.skip rfl (Sub.skip rfl (Sub.skip rfl (Sub.refl _))))))) hk
     ·intro hb54 hk
      refine o_guard_no rfl 165 rfl rfl rfl rfl rfl ?_
      refine o_guard_no rfl 165 rfl rfl rfl rfl rfl ?_
      refine o_guard_no rfl 165 rfl rfl rfl rfl rfl ?_
      refine o_pf rfl rfl rfl ?_
      exact o_sub (sr (Sub.skip rfl (Sub.skip rfl (Sub.skip rfl (Sub.skip rfl (Sub.skip rfl (Sub.refl _))))))) hk
     refine o_mv rfl rfl ?_
     refine o_and (p := 174) 4 ((Cmp.room (l.take ((min (l.length : Int) 60).toNat)) room policy) == least) ?_ ?_ ?_
     ·intro hb55 hk
      simp only [Bool.and_eq_true, beq_iff_eq] at hb55
      refine o_unguard 170 rfl rfl ?_
      refine o_mv rfl rfl ?_
      refine o_unguard 170 rfl rfl ?_
      refine o_mv rfl rfl ?_
      refine o_unguard 170 rfl rfl ?_
      refine o_p (p_eq rfl rfl) ?_
      refine o_pt rfl rfl rfl ?_
      exact o_sub (sr (Sub.skip rfl (Sub.skip rfl (Sub.skip rfl (Sub.skip rfl (Sub.skip rfl (Sub.refl _))))))) hk
     ·intro hb55 hk
      refine o_guard_no rfl 170 rfl rfl rfl rfl rfl ?_
      refine o_guard_no rfl 170 rfl rfl rfl rfl rfl ?_
      refine o_guard_no rfl 170 rfl rfl rfl rfl rfl ?_
      refine o_pf rfl rfl rfl ?_
      exact o_sub (sr (Sub.skip rfl (Sub.skip rfl (Sub.skip rfl (Sub.skip rfl (Sub.skip rfl (Sub.refl _))))))) hk
     refine o_mv rfl rfl ?_
     refine o_and (p := 179) 4 ((Cmp.roomErr (l.take ((min (l.length : Int) 60).toNat)) room policy) == ve) ?_ ?_ ?_
     ·intro hb56 hk
      simp only [Bool.and_eq_true, beq_iff_eq] at hb56
      refine o_unguard 175 rfl rfl ?_
      refine o_mv rfl rfl ?_
      refine o_unguard 175 rfl rfl ?_
      refine o_mv rfl rfl ?_
      refine o_unguard 175 rfl rfl ?_
      refine o_p (p_eq rfl rfl) ?_
      refine o_pt rfl rfl rfl ?_
      exact o_sub (sr (Sub.skip rfl (Sub.skip rfl (Sub.skip rfl (Sub.skip rfl (Sub.skip rfl (Sub.refl _))))))) hk
     ·intro hb56 hk
      refine o_guard_no rfl 175 rfl rfl rfl rfl rfl ?_
      refine o_guard_no rfl 175 rfl rfl rfl rfl rfl ?_
      refine o_guard_no rfl 175 rfl rfl rfl rfl rfl ?_
      refine o_pf rfl rfl rfl ?_
      exact o_sub (sr (Sub.skip rfl (Sub.skip rfl (Sub.skip rfl (Sub.skip rfl (Sub.skip rfl (Sub.refl _))))))) hk
     refine o_as rfl rfl ?_
     refine o_nil (q_then (c_ret ?_))
     have hr0 : (((((((Ref.sameInts (Cmp.hits (l.take ((min (l.length : Int) 60).toNat)) room) hits) && ((Cmp.check (l.take ((min (l.length : Int) 60).toNat)) room) == wf)) && (Ref.sameInts (Cmp.rank (l.take ((min (l.length : Int) 60).toNat)) room) order)) && ((Cmp.check (l.take ((min (l.length : Int) 60).toNat)) room) == wf)) && ((Cmp.room (l.take ((min (l.length : Int) 60).toNat)) room policy) == least)) && ((Cmp.roomErr (l.take ((min (l.length : Int) 60).toNat)) room policy) == ve)) : Bool) = true := by
      rw [hrk, hrf.2.2, ← hH, ← hj1, ← hj3]; simp [Ref.sameInts]
     refine q_end0 (v := .bool ((((((Ref.sameInts (Cmp.hits (l.take ((min (l.length : Int) 60).toNat)) room) hits) && ((Cmp.check (l.take ((min (l.length : Int) 60).toNat)) room) == wf)) && (Ref.sameInts (Cmp.rank (l.take ((min (l.length : Int) 60).toNat)) room) order)) && ((Cmp.check (l.take ((min (l.length : Int) 60).toNat)) room) == wf)) && ((Cmp.room (l.take ((min (l.length : Int) 60).toNat)) room policy) == least)) && ((Cmp.roomErr (l.take ((min (l.length : Int) 60).toNat)) room policy) == ve))) (rt1 rfl (r_tmp rfl)) (i := 4) rfl ?_
     exact (by have hcc := congrArg (fun (y0 : Bool) => (.bool y0 : Value)) hr0; exact hcc)
 ·simp only [decide_eq_false_iff_not, Int.not_le] at hc1
  have hbig : Lru.trace l = 2 := Lru.trace_many (by omega)
  refine c_skip (q_then (c_seq (c_region ?_)))
  refine o_mv rfl rfl ?_
  refine o_mv rfl rfl ?_
  refine o_callM rfl (cphits_ok l al cl room) hf5 (fun w hw => (rd_base (i := 0) rfl hl) w hw) rfl (fun _ _ _ _ ha hA => SlO.agree ha hA) ?_
  rintro ⟨a59, c60⟩ S57
  refine o_know (fun w hw => own_len (i := 0) (T := tInt) hw rfl) (fun hlr61 => ?_)
  refine o_mv rfl rfl ?_
  refine o_ex rfl rfl rfl ?_
  refine o_ex rfl rfl rfl ?_
  refine o_as rfl rfl ?_
  refine o_as rfl rfl ?_
  refine o_nil (q_then (c_seq (c_region ?_)))
  refine o_mv rfl rfl ?_
  refine o_mv rfl rfl ?_
  refine o_callM rfl (cprank_ok l al cl room) hf6 (fun w hw => (rd_base (i := 1) rfl hl) w hw) rfl (fun _ _ _ _ ha hA => SlO.agree ha hA) ?_
  rintro ⟨a64, c65⟩ S62
  refine o_know (fun w hw => own_len (i := 0) (T := tInt) hw rfl) (fun hlr66 => ?_)
  refine o_mv rfl rfl ?_
  refine o_ex rfl rfl rfl ?_
  refine o_ex rfl rfl rfl ?_
  refine o_as rfl rfl ?_
  refine o_as rfl rfl ?_
  refine o_nil (q_then (c_seq (c_region ?_)))
  refine o_mv rfl rfl ?_
  refine o_mv rfl rfl ?_
  refine o_mv rfl rfl ?_
  refine o_call0 (v := .tuple #[Vi (Cmp.room l room policy), Vi (Cmp.roomErr l room policy)]) rfl (cproom_ok l al cl room policy) hf7 (fun w hw => (rd_base (i := 2) rfl hl) w hw) rfl ?_
  refine o_mv rfl rfl ?_
  refine o_ex rfl rfl rfl ?_
  refine o_ex rfl rfl rfl ?_
  refine o_as rfl rfl ?_
  refine o_as rfl rfl ?_
  refine o_nil (q_then (c_seq (c_region ?_)))
  refine o_mv rfl rfl ?_
  refine o_call0 (v := Vi (Lru.trace l)) rfl (traceCheck_ok l al cl) hf8 (fun w hw => (rd_base (i := 2) rfl hl) w hw) rfl ?_
  refine o_as rfl rfl ?_
  refine o_nil (q_then (c_seq (c_seq (c_region ?_))))
  refine o_mv rfl rfl ?_
  refine o_p (p_eq rfl rfl) ?_
  refine o_mv rfl rfl ?_
  refine o_and (p := 60) 7 (decide (room < 2) || decide (40 < room)) ?_ ?_ ?_
  ·intro hb67 hk
   simp only [beq_iff_eq] at hb67
   refine o_unguard 53 rfl rfl ?_
   refine o_mv rfl rfl ?_
   refine o_unguard 53 rfl rfl ?_
   refine o_p (p_lt rfl rfl) ?_
   refine o_unguard 53 rfl rfl ?_
   refine o_mv rfl rfl ?_
   refine o_or (p := 59) 3 (decide (40 < room)) ?_ ?_ ?_
   ·intro hb68 hk
    simp only [decide_eq_false_iff_not, Int.not_lt] at hb68
    refine o_unguard 56 rfl rfl ?_
    refine o_mv rfl rfl ?_
    refine o_unguard 56 rfl rfl ?_
    refine o_p (p_gt rfl rfl) ?_
    refine o_unguard 53 rfl rfl ?_
    refine o_pf rfl rfl rfl ?_
    exact o_sub (sr (Sub.skip rfl (Sub.skip rfl (Sub.skip rfl (Sub.skip rfl (Sub.refl _)))))) hk
   ·intro hb68 hk
    refine o_guard_no rfl 56 rfl rfl rfl rfl rfl ?_
    refine o_guard_no rfl 56 rfl rfl rfl rfl rfl ?_
    refine o_unguard 53 rfl rfl ?_
    refine o_pt rfl rfl rfl ?_
    exact o_sub (sr (Sub.skip rfl (Sub.skip rfl (Sub.skip rfl (Sub.skip rfl (Sub.refl _)))))) hk
   refine o_pt rfl rfl rfl ?_
   exact o_sub (sr (Sub.skip rfl (Sub.skip rfl (Sub.skip rfl (Sub.skip rfl (Sub.skip rfl (Sub.refl _))))))) hk
  ·intro hb67 hk
   refine o_guard_no rfl 53 rfl rfl rfl rfl rfl ?_
   refine o_guard_no rfl 53 rfl rfl rfl rfl rfl ?_
   refine o_guard_no rfl 53 rfl rfl rfl rfl rfl ?_
   refine o_guard_no rfl 56 rfl rfl rfl rfl rfl ?_
   refine o_guard_no rfl 56 rfl rfl rfl rfl rfl ?_
   refine o_guard_no rfl 53 rfl rfl rfl rfl rfl ?_
   refine o_pf rfl rfl rfl ?_
   exact o_sub (sr (Sub.skip rfl (Sub.skip rfl (Sub.skip rfl (Sub.skip rfl (Sub.skip rfl (Sub.skip rfl (Sub.skip rfl (Sub.skip rfl (Sub.refl _)))))))))) hk
  refine o_nil (q_then ?_)
  refine c_join (G := Int)
   (fun wf => [(0, .slice al l.length cl), (1, Vi room), (2, Vi policy), (7, .slice a59 (Cmp.hits l room).length c60), (8, Vi (Cmp.check l room)), (9, .slice a64 (Cmp.rank l room).length c65), (10, Vi (Cmp.check l room)), (11, Vi (Cmp.room l room policy)), (12, Vi (Cmp.roomErr l room policy)), (13, Vi wf)])
   (fun wf => [own tInt S62 a64 c65 (Cmp.rank l room), own tInt S57 a59 c60 (Cmp.hits l room), base w0])
   (fun wf => wf = Cmp.check l room)
   (fun K hK69 => ?_) ?_
  ·refine c_cond rfl (fun hc70 => ?_) (fun hc70 => ?_)
   ·simp only [Bool.and_eq_true, beq_iff_eq, Bool.or_eq_true, decide_eq_true_eq] at hc70
    have hja := hc70
    refine c_region ?_
    refine o_as rfl rfl ?_
    refine o_nil ?_
    refine q_join hK69 3 ?_ (sr (sr (sr (sr (sr (sr (sr (sr (sr (sr (Sub.nil _))))))))))) (pk [0, 1, 2])
    clear hK69
    first | exact Cmp.chk1 hja | exact Cmp.chk2 hja
   ·simp only [Bool.and_eq_false_iff, beq_eq_false_iff_ne, ne_eq, Bool.or_eq_false_iff, decide_eq_false_iff_not, Int.not_lt] at hc70
    have hja := hc70
    refine c_skip ?_
    refine q_join hK69 (Lru.trace l) ?_ (sr (sr (sr (sr (sr (sr (sr (sr (sr (sr (Sub.nil _))))))))))) (pk [0, 1, 2])
    clear hK69
    first | exact Cmp.chk1 hja | exact Cmp.chk2 hja
  rintro wf hj1
  show SQ _ 180 w0 _ _ [(0, .slice al l.length cl), (1, Vi room), (2, Vi policy), (7, .slice a59 (Cmp.hits l room).length c60), (8, Vi (Cmp.check l room)), (9, .slice a64 (Cmp.rank l room).length c65), (10, Vi (Cmp.check l room)), (11, Vi (Cmp.room l room policy)), (12, Vi (Cmp.roomErr l room policy)), (13, Vi wf)] [own tInt S62 a64 c65 (Cmp.rank l room), own tInt S57 a59 c60 (Cmp.hits l room), base w0]
  refine q_then (c_seq (c_region ?_))
  refine o_mv rfl rfl ?_
  refine o_as rfl rfl ?_
  refine o_as rfl rfl ?_
  refine o_nil (q_then (c_seq (c_seq (c_region ?_))))
  refine o_mv rfl rfl ?_
  refine o_p (p_eq rfl rfl) ?_
  refine o_mv rfl rfl ?_
  refine o_and (p := 71) 7 (decide (policy < 1) || decide (5 < policy)) ?_ ?_ ?_
  ·intro hb71 hk
   simp only [beq_iff_eq] at hb71
   refine o_unguard 64 rfl rfl ?_
   refine o_mv rfl rfl ?_
   refine o_unguard 64 rfl rfl ?_
   refine o_p (p_lt rfl rfl) ?_
   refine o_unguard 64 rfl rfl ?_
   refine o_mv rfl rfl ?_
   refine o_or (p := 70) 3 (decide (5 < policy)) ?_ ?_ ?_
   ·intro hb72 hk
    simp only [decide_eq_false_iff_not, Int.not_lt] at hb72
    refine o_unguard 67 rfl rfl ?_
    refine o_mv rfl rfl ?_
    refine o_unguard 67 rfl rfl ?_
    refine o_p (p_gt rfl rfl) ?_
    refine o_unguard 64 rfl rfl ?_
    refine o_pf rfl rfl rfl ?_
    exact o_sub (sr (Sub.skip rfl (Sub.skip rfl (Sub.skip rfl (Sub.skip rfl (Sub.refl _)))))) hk
   ·intro hb72 hk
    refine o_guard_no rfl 67 rfl rfl rfl rfl rfl ?_
    refine o_guard_no rfl 67 rfl rfl rfl rfl rfl ?_
    refine o_unguard 64 rfl rfl ?_
    refine o_pt rfl rfl rfl ?_
    exact o_sub (sr (Sub.skip rfl (Sub.skip rfl (Sub.skip rfl (Sub.skip rfl (Sub.refl _)))))) hk
   refine o_pt rfl rfl rfl ?_
   exact o_sub (sr (Sub.skip rfl (Sub.skip rfl (Sub.skip rfl (Sub.skip rfl (Sub.skip rfl (Sub.refl _))))))) hk
  ·intro hb71 hk
   refine o_guard_no rfl 64 rfl rfl rfl rfl rfl ?_
   refine o_guard_no rfl 64 rfl rfl rfl rfl rfl ?_
   refine o_guard_no rfl 64 rfl rfl rfl rfl rfl ?_
   refine o_guard_no rfl 67 rfl rfl rfl rfl rfl ?_
   refine o_guard_no rfl 67 rfl rfl rfl rfl rfl ?_
   refine o_guard_no rfl 64 rfl rfl rfl rfl rfl ?_
   refine o_pf rfl rfl rfl ?_
   exact o_sub (sr (Sub.skip rfl (Sub.skip rfl (Sub.skip rfl (Sub.skip rfl (Sub.skip rfl (Sub.skip rfl (Sub.skip rfl (Sub.skip rfl (Sub.refl _)))))))))) hk
  refine o_nil (q_then ?_)
  refine c_join (G := Int)
   (fun vf => [(0, .slice al l.length cl), (1, Vi room), (2, Vi policy), (7, .slice a59 (Cmp.hits l room).length c60), (8, Vi (Cmp.check l room)), (9, .slice a64 (Cmp.rank l room).length c65), (10, Vi (Cmp.check l room)), (11, Vi (Cmp.room l room policy)), (12, Vi (Cmp.roomErr l room policy)), (13, Vi wf), (14, Vi vf), (15, Vi 0)])
   (fun vf => [own tInt S62 a64 c65 (Cmp.rank l room), own tInt S57 a59 c60 (Cmp.hits l room), base w0])
   (fun vf => vf = Cmp.roomE l room policy)
   (fun K hK73 => ?_) ?_
  ·refine c_cond rfl (fun hc74 => ?_) (fun hc74 => ?_)
   ·simp only [Bool.and_eq_true, beq_iff_eq, Bool.or_eq_true, decide_eq_true_eq] at hc74
    have hjb := hc74
    refine c_region ?_
    refine o_as rfl rfl ?_
    refine o_nil ?_
    refine q_join hK73 7 ?_ (sr (sr (sr (sr (sr (sr (sr (sr (sr (sr (sr (sr (Sub.nil _))))))))))))) (pk [0, 1, 2])
    clear hK73
    first | exact Cmp.cj3 hj1 hjb | exact Cmp.cj4 hj1 hjb
   ·simp only [Bool.and_eq_false_iff, beq_eq_false_iff_ne, ne_eq, Bool.or_eq_false_iff, decide_eq_false_iff_not, Int.not_lt] at hc74
    have hjb := hc74
    refine c_skip ?_
    refine q_join hK73 wf ?_ (sr (sr (sr (sr (sr (sr (sr (sr (sr (sr (sr (sr (Sub.nil _))))))))))))) (pk [0, 1, 2])
    clear hK73
    first | exact Cmp.cj3 hj1 hjb | exact Cmp.cj4 hj1 hjb
  rintro vf hj2
  show SQ _ 180 w0 _ _ [(0, .slice al l.length cl), (1, Vi room), (2, Vi policy), (7, .slice a59 (Cmp.hits l room).length c60), (8, Vi (Cmp.check l room)), (9, .slice a64 (Cmp.rank l room).length c65), (10, Vi (Cmp.check l room)), (11, Vi (Cmp.room l room policy)), (12, Vi (Cmp.roomErr l room policy)), (13, Vi wf), (14, Vi vf), (15, Vi 0)] [own tInt S62 a64 c65 (Cmp.rank l room), own tInt S57 a59 c60 (Cmp.hits l room), base w0]
  refine q_then (c_seq (c_region ?_))
  refine o_as rfl rfl ?_
  refine o_as rfl rfl ?_
  refine o_nil (q_then (c_seq (c_seq (c_region ?_))))
  refine o_as rfl rfl ?_
  refine o_nil (q_then (c_block ?_))
  refine c_ownNil tInt ?_
  refine c_loop (St := List Int × Option Addr × Nat × (Nat → Prop) × Int)
   (fun ⟨hits, ahits, chits, Shits, k1⟩ => [(0, .slice al l.length cl), (1, Vi room), (2, Vi policy), (7, .slice a59 (Cmp.hits l room).length c60), (8, Vi (Cmp.check l room)), (9, .slice a64 (Cmp.rank l room).length c65), (10, Vi (Cmp.check l room)), (11, Vi (Cmp.room l room policy)), (12, Vi (Cmp.roomErr l room policy)), (13, Vi wf), (14, Vi vf), (15, Vi 0), (16, .slice ahits hits.length chits), (17, .slice none 0 0), (18, Vi k1)])
   (fun ⟨hits, ahits, chits, Shits, k1⟩ => [own tInt Shits ahits chits hits, own tInt S62 a64 c65 (Cmp.rank l room), own tInt S57 a59 c60 (Cmp.hits l room), base w0])
   (fun ⟨hits, ahits, chits, Shits, k1⟩ => 1 ≤ k1 ∧ k1 ≤ 6 ∧ (wf ≠ 0 → k1 = 1) ∧ hits = (List.range (k1 - 1).toNat).map (fun i : Nat => Cmp.by_ l room ((i : Int) + 1)))
   (fun ⟨hits, ahits, chits, Shits, k1⟩ => (6 - k1).toNat)
   ([], none, 0, (fun _ => False), 1) ?_ (sr (sr (sr (sr (sr (sr (sr (sr (sr (sr (sr (sr (sr (sr (sr (Sub.nil _)))))))))))))))) (fun _ hw => hw) ?_
  ·exact ⟨by omega, by omega, fun _ => rfl, rfl⟩
  rintro ⟨hits, ahits, chits, Shits, k1⟩ hI K hK76
  have hhl : hits.length = (k1 - 1).toNat := by rw [hI.2.2.2]; simp
  show SC _ _ Tryz.prog 180 w0 _ _ [(0, .slice al l.length cl), (1, Vi room), (2, Vi policy), (7, .slice a59 (Cmp.hits l room).length c60), (8, Vi (Cmp.check l room)), (9, .slice a64 (Cmp.rank l room).length c65), (10, Vi (Cmp.check l room)), (11, Vi (Cmp.room l room policy)), (12, Vi (Cmp.roomErr l room policy)), (13, Vi wf), (14, Vi vf), (15, Vi 0), (16, .slice ahits hits.length chits), (17, .slice none 0 0), (18, Vi k1)] [own tInt Shits ahits chits hits, own tInt S62 a64 c65 (Cmp.rank l room), own tInt S57 a59 c60 (Cmp.hits l room), base w0]
  refine c_seq (c_seq (c_region ?_))
  refine o_mv rfl rfl ?_
  refine o_p (p_le rfl rfl) ?_
  refine o_mv rfl rfl ?_
  refine o_and (p := 77) 3 (wf == 0) ?_ ?_ ?_
  ·intro hb77 hk
   simp only [decide_eq_true_eq] at hb77
   refine o_unguard 74 rfl rfl ?_
   refine o_mv rfl rfl ?_
   refine o_unguard 74 rfl rfl ?_
   refine o_p (p_eq rfl rfl) ?_
   refine o_pt rfl rfl rfl ?_
   exact o_sub (sr (Sub.skip rfl (Sub.skip rfl (Sub.skip rfl (Sub.skip rfl (Sub.refl _)))))) hk
  ·intro hb77 hk
   refine o_guard_no rfl 74 rfl rfl rfl rfl rfl ?_
   refine o_guard_no rfl 74 rfl rfl rfl rfl rfl ?_
   refine o_pf rfl rfl rfl ?_
   exact o_sub (sr (Sub.skip rfl (Sub.skip rfl (Sub.skip rfl (Sub.skip rfl (Sub.refl _)))))) hk
  refine o_nil (q_then ?_)
  refine c_cond rfl (fun hc78 => ?_) (fun hc78 => ?_)
  ·simp only [Bool.and_eq_true, decide_eq_true_eq, beq_iff_eq] at hc78
   have hgo := hc78
   have hok0 := Cmp.chk_ok.1 (hj1 ▸ hc78.2)
   refine c_skip (q_then (c_seq (c_block (c_region ?_))))
   refine o_mv rfl rfl ?_
   refine o_mv rfl rfl ?_
   refine o_mv rfl rfl ?_
   refine o_mv rfl rfl ?_
   refine o_call0 (v := Vi (Cmp.by_ l room k1)) rfl (contestHits_ok l al cl room k1 (by first | assumption | exact ⟨hok.1, by omega, by omega⟩ | exact ⟨hok0.1, by omega, by omega⟩)) hf9 (fun w hw => (rd_base (i := 3) rfl hl) w hw) rfl ?_
   refine o_buildSlice (m := 1) (T := tInt) (L := [(Cmp.by_ l room k1)]) (vs := [Vi (Cmp.by_ l room k1)]) rfl rfl rfl rfl Tryz.underlying22 sz3 (by decide) ze3 rfl (by decide) rfl (fun S79 a80 => ?_)
   refine o_append (i := 1) (L := hits) (M := [(Cmp.by_ l room k1)]) (T := tInt) rfl rfl rfl (rd_own (i := 0) rfl) Tryz.underlying22 Tryz.underlying22 (by intro k h; cases h) el3 (by intro z; simp [tInt, one1]) (by decide) (by first | omega | (simp only [List.length_cons, List.length_nil]; omega) | (simp only [List.length_append, List.length_cons, List.length_nil, List.length_take, List.length_drop]; omega)) rfl (fun a82 c83 S84 => ?_)
   refine o_as rfl rfl ?_
   refine o_nil ?_
   refine q_block_normal (q_then ?_)
   refine c_region ?_
   refine o_mv rfl rfl ?_
   refine o_p (p_addb rfl rfl (by omega)) ?_
   refine o_as rfl rfl ?_
   refine o_nil ?_
   refine q_round hK76 ((hits ++ [(Cmp.by_ l room k1)]), a82, c83, S84, (k1 + 1)) ?_ ?_ ?_ ?_
   ·clear hK76
    exact ⟨by omega, by omega, fun h9 => absurd hgo.2 h9, Cmp.hits_next hI.2.2.2 (by omega)⟩
   ·(try dsimp only); omega
   ·exact sr (sr (sr (sr (sr (sr (sr (sr (sr (sr (sr (sr (sr (sr (sr (Sub.nil _)))))))))))))))
   ·exact pk [1, 2, 3, 4]
  ·simp only [Bool.and_eq_false_iff, decide_eq_false_iff_not, Int.not_le, beq_eq_false_iff_ne, ne_eq] at hc78
   have hH := Cmp.hits_end hj1 hI.1 hI.2.1 hI.2.2.1 hI.2.2.2 hc78
   have hH5 := Cmp.len_le hH
   refine c_exit ?_
   refine q_then_exit (q_then_exit (q_block_exit (q_then ?_)))
   refine c_seq (c_block ?_)
   refine c_ownNil tInt ?_
   refine c_loop (St := List Int × Option Addr × Nat × (Nat → Prop))
    (fun ⟨order, aorder, corder, Sorder⟩ => [(0, .slice al l.length cl), (2, Vi policy), (7, .slice a59 (Cmp.hits l room).length c60), (8, Vi (Cmp.check l room)), (9, .slice a64 (Cmp.rank l room).length c65), (10, Vi (Cmp.check l room)), (11, Vi (Cmp.room l room policy)), (12, Vi (Cmp.roomErr l room policy)), (13, Vi wf), (14, Vi vf), (15, Vi 0), (16, .slice ahits hits.length chits), (17, .slice aorder order.length corder)])
    (fun ⟨order, aorder, corder, Sorder⟩ => [own tInt Sorder aorder corder order, own tInt Shits ahits chits hits, own tInt S62 a64 c65 (Cmp.rank l room), own tInt S57 a59 c60 (Cmp.hits l room), base w0])
    (fun ⟨order, aorder, corder, Sorder⟩ => Cmp.OrdI l room hits order)
    (fun ⟨order, aorder, corder, Sorder⟩ => hits.length - order.length)
    ([], none, 0, (fun _ => False)) ?_ (sr (sr (sr (sr (sr (sr (sr (sr (sr (sr (sr (sr (sr (Sub.nil _)))))))))))))) (fun _ hw => hw) ?_
   ·exact Cmp.OrdI.start _ _ _
   rintro ⟨order, aorder, corder, Sorder⟩ hI K hK86
   have hO := hI
   have hol := hI.le
   show SC _ _ Tryz.prog 180 w0 _ _ [(0, .slice al l.length cl), (2, Vi policy), (7, .slice a59 (Cmp.hits l room).length c60), (8, Vi (Cmp.check l room)), (9, .slice a64 (Cmp.rank l room).length c65), (10, Vi (Cmp.check l room)), (11, Vi (Cmp.room l room policy)), (12, Vi (Cmp.roomErr l room policy)), (13, Vi wf), (14, Vi vf), (15, Vi 0), (16, .slice ahits hits.length chits), (17, .slice aorder order.length corder)] [own tInt Sorder aorder corder order, own tInt Shits ahits chits hits, own tInt S62 a64 c65 (Cmp.rank l room), own tInt S57 a59 c60 (Cmp.hits l room), base w0]
   refine c_seq (c_seq (c_region ?_))
   refine o_mv rfl rfl ?_
   refine o_p (p_len_slice rfl rfl Tryz.underlying22) ?_
   refine o_mv rfl rfl ?_
   refine o_p (p_len_slice rfl rfl Tryz.underlying22) ?_
   refine o_p (p_lt rfl rfl) ?_
   refine o_nil (q_then ?_)
   refine c_cond rfl (fun hc87 => ?_) (fun hc87 => ?_)
   ·simp only [decide_eq_true_eq] at hc87
    have hck := Cmp.chk_of hH (by omega)
    have hH6 : hits.length = 5 := by rw [hH]; exact Cmp.hits_len hck
    refine c_skip (q_then (c_block (c_seq (c_region ?_))))
    refine o_as rfl rfl ?_
    refine o_nil (q_then (c_seq (c_seq (c_region ?_))))
    refine o_as rfl rfl ?_
    refine o_nil (q_then (c_block ?_))
    refine c_loop (St := Int × Int)
     (fun ⟨best, k2⟩ => [(0, .slice al l.length cl), (2, Vi policy), (7, .slice a59 (Cmp.hits l room).length c60), (8, Vi (Cmp.check l room)), (9, .slice a64 (Cmp.rank l room).length c65), (10, Vi (Cmp.check l room)), (11, Vi (Cmp.room l room policy)), (12, Vi (Cmp.roomErr l room policy)), (13, Vi wf), (14, Vi vf), (15, Vi 0), (16, .slice ahits hits.length chits), (17, .slice aorder order.length corder), (19, Vi best), (20, Vi k2)])
     (fun ⟨best, k2⟩ => [own tInt Sorder aorder corder order, own tInt Shits ahits chits hits, own tInt S62 a64 c65 (Cmp.rank l room), own tInt S57 a59 c60 (Cmp.hits l room), base w0])
     (fun ⟨best, k2⟩ => Cmp.PI hits order best k2)
     (fun ⟨best, k2⟩ => (6 - k2).toNat)
     (0, 1) ?_ (sr (sr (sr (sr (sr (sr (sr (sr (sr (sr (sr (sr (sr (sr (sr (Sub.nil _)))))))))))))))) (fun _ hw => hw) ?_
    ·exact Cmp.PI.start _ _
    rintro ⟨best, k2⟩ hI K hK88
    have hp0 := hI.lo
    have hp1 := hI.hi
    have hp2 := hI.b0
    have hp3 := hI.b1
    show SC _ _ Tryz.prog 180 w0 _ _ [(0, .slice al l.length cl), (2, Vi policy), (7, .slice a59 (Cmp.hits l room).length c60), (8, Vi (Cmp.check l room)), (9, .slice a64 (Cmp.rank l room).length c65), (10, Vi (Cmp.check l room)), (11, Vi (Cmp.room l room policy)), (12, Vi (Cmp.roomErr l room policy)), (13, Vi wf), (14, Vi vf), (15, Vi 0), (16, .slice ahits hits.length chits), (17, .slice aorder order.length corder), (19, Vi best), (20, Vi k2)] [own tInt Sorder aorder corder order, own tInt Shits ahits chits hits, own tInt S62 a64 c65 (Cmp.rank l room), own tInt S57 a59 c60 (Cmp.hits l room), base w0]
    refine c_seq (c_seq (c_region ?_))
    refine o_mv rfl rfl ?_
    refine o_p (p_le rfl rfl) ?_
    refine o_nil (q_then ?_)
    refine c_cond rfl (fun hc89 => ?_) (fun hc89 => ?_)
    ·simp only [decide_eq_true_eq] at hc89
     refine c_skip (q_then (c_seq (c_block (c_seq ?_))))
     refine c_draw hmix (by kernel_rfl) ?_
     refine w_mv rfl rfl ?_
     refine w_mv rfl rfl ?_
     refine w_call0 (v := .bool (Ref.hasInt order k2)) rfl (hasInt_ok order aorder corder k2) hf10 (fun w hw => (rd_own (i := 0) rfl) w hw) rfl ?_
     refine w_p (p_not (b := (Ref.hasInt order k2)) rfl) ?_
     refine w_mv rfl rfl ?_
     refine w_and (p := 116) 16 ((best == 0) || decide ((hits.getD ((best - 1).toNat) default) < (hits.getD ((k2 - 1).toNat) default))) ?_ ?_ ?_
     ·intro hb90 hk
      simp only [Bool.not_eq_true'] at hb90
      refine w_unguard 100 rfl rfl ?_
      refine w_mv rfl rfl ?_
      refine w_unguard 100 rfl rfl ?_
      refine w_p (p_eq rfl rfl) ?_
      refine w_unguard 100 rfl rfl ?_
      refine w_mv rfl rfl ?_
      refine w_or (p := 115) 12 (decide ((hits.getD ((best - 1).toNat) default) < (hits.getD ((k2 - 1).toNat) default))) ?_ ?_ ?_
      ·intro hb91 hk
       simp only [beq_eq_false_iff_ne, ne_eq] at hb91
       refine w_unguard 103 rfl rfl ?_
       refine w_mv rfl rfl ?_
       refine w_unguard 103 rfl rfl ?_
       refine w_mv rfl rfl ?_
       refine w_unguard 103 rfl rfl ?_
       refine w_p (p_subb rfl rfl (by omega)) ?_
       refine w_unguard 103 rfl rfl ?_
       refine w_p (p_indexAddr (L := hits) (T := tInt) (i := (k2 - 1)) rfl rfl (rd_own (i := 1) rfl) Tryz.underlying22 sz3 (by omega) (by omega)) ?_
       refine w_unguard 103 rfl rfl ?_
       refine w_p (p_loadE1 (i := (k2 - 1).toNat) (T := tInt) (L := hits) (v := Vi (hits.getD ((k2 - 1).toNat) default)) rfl (rd_own (i := 1) rfl) (by first | assumption | omega) sh3 (congrArg tInt.enc (getd_at (by first | assumption | omega) default))) ?_
       refine w_unguard 103 rfl rfl ?_
       refine w_mv rfl rfl ?_
       refine w_unguard 103 rfl rfl ?_
       refine w_mv rfl rfl ?_
       refine w_unguard 103 rfl rfl ?_
       refine w_p (p_subb rfl rfl (by omega)) ?_
       refine w_unguard 103 rfl rfl ?_
       refine w_p (p_indexAddr (L := hits) (T := tInt) (i := (best - 1)) rfl rfl (rd_own (i := 1) rfl) Tryz.underlying22 sz3 (by omega) (by omega)) ?_
       refine w_unguard 103 rfl rfl ?_
       refine w_p (p_loadE1 (i := (best - 1).toNat) (T := tInt) (L := hits) (v := Vi (hits.getD ((best - 1).toNat) default)) rfl (rd_own (i := 1) rfl) (by first | assumption | omega) sh3 (congrArg tInt.enc (getd_at (by first | assumption | omega) default))) ?_
       refine w_unguard 103 rfl rfl ?_
       refine w_p (p_gt rfl rfl) ?_
       refine w_unguard 100 rfl rfl ?_
       refine w_pf rfl rfl rfl ?_
       exact w_sub (sr (Sub.skip rfl (Sub.skip rfl (Sub.skip rfl (Sub.skip rfl (Sub.skip rfl (Sub.skip rfl (Sub.skip rfl (Sub.skip rfl (Sub.skip rfl (Sub.skip rfl (Sub.skip rfl (Sub.skip rfl (Sub.skip rfl (Sub.refl _))))))))))))))) hk
      ·intro hb91 hk
       refine w_guard_no rfl 103 rfl rfl rfl rfl rfl ?_
       refine w_guard_no rfl 103 rfl rfl rfl rfl rfl ?_
       refine w_guard_no rfl 103 rfl rfl rfl rfl rfl ?_
       refine w_guard_no rfl 103 rfl rfl rfl rfl rfl ?_
       refine w_guard_no rfl 103 rfl rfl rfl rfl rfl ?_
       refine w_guard_no rfl 103 rfl rfl rfl rfl rfl ?_
       refine w_guard_no rfl 103 rfl rfl rfl rfl rfl ?_
       refine w_guard_no rfl 103 rfl rfl rfl rfl rfl ?_
       refine w_guard_no rfl 103 rfl rfl rfl rfl rfl ?_
       refine w_guard_no rfl 103 rfl rfl rfl rfl rfl ?_
       refine w_guard_no rfl 103 rfl rfl rfl rfl rfl ?_
       refine w_unguard 100 rfl rfl ?_
       refine w_pt rfl rfl rfl ?_
       exact w_sub (sr (Sub.skip rfl (Sub.skip rfl (Sub.skip rfl (Sub.skip rfl (Sub.skip rfl (Sub.skip rfl (Sub.skip rfl (Sub.skip rfl (Sub.skip rfl (Sub.skip rfl (Sub.skip rfl (Sub.skip rfl (Sub.skip rfl (Sub.refl _))))))))))))))) hk
      refine w_pt rfl rfl rfl ?_
      exact w_sub (sr (Sub.skip rfl (Sub.skip rfl (Sub.skip rfl (Sub.skip rfl (Sub.skip rfl (Sub.refl _))))))) hk
     ·intro hb90 hk
      refine w_guard_no rfl 100 rfl rfl rfl rfl rfl ?_
      refine w_guard_no rfl 100 rfl rfl rfl rfl rfl ?_
      refine w_guard_no rfl 100 rfl rfl rfl rfl rfl ?_
      refine w_guard_no rfl 103 rfl rfl rfl rfl rfl ?_
      refine w_guard_no rfl 103 rfl rfl rfl rfl rfl ?_
      refine w_guard_no rfl 103 rfl rfl rfl rfl rfl ?_
      refine w_guard_no rfl 103 rfl rfl rfl rfl rfl ?_
      refine w_guard_no rfl 103 rfl rfl rfl rfl rfl ?_
      refine w_guard_no rfl 103 rfl rfl rfl rfl rfl ?_
      refine w_guard_no rfl 103 rfl rfl rfl rfl rfl ?_
      refine w_guard_no rfl 103 rfl rfl rfl rfl rfl ?_
      refine w_guard_no rfl 103 rfl rfl rfl rfl rfl ?_
      refine w_guard_no rfl 103 rfl rfl rfl rfl rfl ?_
      refine w_guard_no rfl 103 rfl rfl rfl rfl rfl ?_
      refine w_guard_no rfl 100 rfl rfl rfl rfl rfl ?_
      refine w_pf rfl rfl rfl ?_
      exact w_sub (sr (Sub.skip rfl (Sub.skip rfl (Sub.skip rfl (Sub.skip rfl (Sub.skip rfl (Sub.skip rfl (Sub.skip rfl (Sub.skip rfl (Sub.skip rfl (Sub.skip rfl (Sub.skip rfl (Sub.skip rfl (Sub.skip rfl (Sub.skip rfl (Sub.skip rfl (Sub.skip rfl (Sub.skip rfl (Sub.refl _))))))))))))))))))) hk
     refine w_nil (q_then ?_)
     refine c_cond rfl (fun hc92 => ?_) (fun hc92 => ?_)
     ·simp only [Bool.and_eq_true, Bool.not_eq_true', Bool.or_eq_true, beq_iff_eq, decide_eq_true_eq] at hc92
      have hpk := hc92
      refine c_region ?_
      refine o_mv rfl rfl ?_
      refine o_as rfl rfl ?_
      refine o_nil ?_
      refine q_block_normal (q_then ?_)
      refine c_region ?_
      refine o_mv rfl rfl ?_
      refine o_p (p_addb rfl rfl (by omega)) ?_
      refine o_as rfl rfl ?_
      refine o_nil ?_
      refine q_round hK88 (k2, (k2 + 1)) ?_ ?_ ?_ ?_
      ·clear hK88
       first | exact hI.take_ (by omega) hpk.1 hpk.2 | exact hI.skip (by omega) hpk
      ·(try dsimp only); omega
      ·exact sr (sr (sr (sr (sr (sr (sr (sr (sr (sr (sr (sr (sr (sr (sr (Sub.nil _)))))))))))))))
      ·exact pk [0, 1, 2, 3, 4]
     ·simp only [Bool.and_eq_false_iff, Bool.not_eq_false', Bool.or_eq_false_iff, beq_eq_false_iff_ne, ne_eq, decide_eq_false_iff_not, Int.not_lt] at hc92
      have hpk := hc92
      refine c_skip ?_
      refine q_block_normal (q_then ?_)
      refine c_region ?_
      refine o_mv rfl rfl ?_
      refine o_p (p_addb rfl rfl (by omega)) ?_
      refine o_as rfl rfl ?_
      refine o_nil ?_
      refine q_round hK88 (best, (k2 + 1)) ?_ ?_ ?_ ?_
      ·clear hK88
       first | exact hI.take_ (by omega) hpk.1 hpk.2 | exact hI.skip (by omega) hpk
      ·(try dsimp only); omega
      ·exact sr (sr (sr (sr (sr (sr (sr (sr (sr (sr (sr (sr (sr (sr (sr (Sub.nil _)))))))))))))))
      ·exact pk [0, 1, 2, 3, 4]
    ·simp only [decide_eq_false_iff_not, Int.not_le] at hc89
     refine c_exit ?_
     refine q_then_exit (q_then_exit (q_block_exit (q_then ?_)))
     refine c_region ?_
     refine o_mv rfl rfl ?_
     refine o_mv rfl rfl ?_
     refine o_buildSlice (m := 1) (T := tInt) (L := [best]) (vs := [Vi best]) rfl rfl rfl rfl Tryz.underlying22 sz3 (by decide) ze3 rfl (by decide) rfl (fun S93 a94 => ?_)
     refine o_append (i := 1) (L := order) (M := [best]) (T := tInt) rfl rfl rfl (rd_own (i := 0) rfl) Tryz.underlying22 Tryz.underlying22 (by intro k h; cases h) el3 (by intro z; simp [tInt, one1]) (by decide) (by first | omega | (simp only [List.length_cons, List.length_nil]; omega) | (simp only [List.length_append, List.length_cons, List.length_nil, List.length_take, List.length_drop]; omega)) rfl (fun a96 c97 S98 => ?_)
     refine o_as rfl rfl ?_
     refine o_nil ?_
     refine q_block_normal ?_
     refine q_round hK86 ((order ++ [best]), a96, c97, S98) ?_ ?_ ?_ ?_
     ·clear hK86
      exact hO.next hH (by omega) hI (by omega)
     ·(try dsimp only); simp only [List.length_append, List.length_cons, List.length_nil]; omega
     ·exact sr (sr (sr (sr (sr (sr (sr (sr (sr (sr (sr (sr (sr (Sub.nil _)))))))))))))
     ·exact pk [1, 2, 3, 4, 5]
   ·simp only [decide_eq_false_iff_not, Int.not_lt] at hc87
    have hrk := hI.done hH (by omega)
    refine c_exit ?_
    refine q_then_exit (q_then_exit (q_block_exit (q_then ?_)))
    refine c_seq (c_seq (c_region ?_))
    refine o_as rfl rfl ?_
    refine o_nil (q_then (c_block ?_))
    refine c_loop (St := Int × Int)
     (fun ⟨least, r⟩ => [(0, .slice al l.length cl), (2, Vi policy), (7, .slice a59 (Cmp.hits l room).length c60), (8, Vi (Cmp.check l room)), (9, .slice a64 (Cmp.rank l room).length c65), (10, Vi (Cmp.check l room)), (11, Vi (Cmp.room l room policy)), (12, Vi (Cmp.roomErr l room policy)), (13, Vi wf), (14, Vi vf), (15, Vi least), (16, .slice ahits hits.length chits), (17, .slice aorder order.length corder), (21, Vi r)])
     (fun ⟨least, r⟩ => [own tInt Sorder aorder corder order, own tInt Shits ahits chits hits, own tInt S62 a64 c65 (Cmp.rank l room), own tInt S57 a59 c60 (Cmp.hits l room), base w0])
     (fun ⟨least, r⟩ => Cmp.LI l policy (hits.getD 4 default) vf r least)
     (fun ⟨least, r⟩ => (41 - r).toNat)
     (0, 2) ?_ (sr (sr (sr (sr (sr (sr (sr (sr (sr (sr (sr (sr (sr (sr (Sub.nil _))))))))))))))) (fun _ hw => hw) ?_
    ·exact Cmp.LI.start _ _ _ _
    rintro ⟨least, r⟩ hI K hK99
    have hlo := hI.lo
    have hhi := hI.hi
    show SC _ _ Tryz.prog 180 w0 _ _ [(0, .slice al l.length cl), (2, Vi policy), (7, .slice a59 (Cmp.hits l room).length c60), (8, Vi (Cmp.check l room)), (9, .slice a64 (Cmp.rank l room).length c65), (10, Vi (Cmp.check l room)), (11, Vi (Cmp.room l room policy)), (12, Vi (Cmp.roomErr l room policy)), (13, Vi wf), (14, Vi vf), (15, Vi least), (16, .slice ahits hits.length chits), (17, .slice aorder order.length corder), (21, Vi r)] [own tInt Sorder aorder corder order, own tInt Shits ahits chits hits, own tInt S62 a64 c65 (Cmp.rank l room), own tInt S57 a59 c60 (Cmp.hits l room), base w0]
    refine c_seq (c_seq (c_region ?_))
    refine o_mv rfl rfl ?_
    refine o_p (p_le rfl rfl) ?_
    refine o_mv rfl rfl ?_
    refine o_and (p := 127) 3 (vf == 0) ?_ ?_ ?_
    ·intro hb100 hk
     simp only [decide_eq_true_eq] at hb100
     refine o_unguard 124 rfl rfl ?_
     refine o_mv rfl rfl ?_
     refine o_unguard 124 rfl rfl ?_
     refine o_p (p_eq rfl rfl) ?_
     refine o_pt rfl rfl rfl ?_
     exact o_sub (sr (Sub.skip rfl (Sub.skip rfl (Sub.skip rfl (Sub.skip rfl (Sub.refl _)))))) hk
    ·intro hb100 hk
     refine o_guard_no rfl 124 rfl rfl rfl rfl rfl ?_
     refine o_guard_no rfl 124 rfl rfl rfl rfl rfl ?_
     refine o_pf rfl rfl rfl ?_
     exact o_sub (sr (Sub.skip rfl (Sub.skip rfl (Sub.skip rfl (Sub.skip rfl (Sub.refl _)))))) hk
    refine o_mv rfl rfl ?_
    refine o_and (p := 131) 3 (least == 0) ?_ ?_ ?_
    ·intro hb101 hk
     simp only [Bool.and_eq_true, decide_eq_true_eq, beq_iff_eq] at hb101
     refine o_unguard 128 rfl rfl ?_
     refine o_mv rfl rfl ?_
     refine o_unguard 128 rfl rfl ?_
     refine o_p (p_eq rfl rfl) ?_
     refine o_pt rfl rfl rfl ?_
     exact o_sub (sr (Sub.skip rfl (Sub.skip rfl (Sub.skip rfl (Sub.skip rfl (Sub.refl _)))))) hk
    ·intro hb101 hk
     refine o_guard_no rfl 128 rfl rfl rfl rfl rfl ?_
     refine o_guard_no rfl 128 rfl rfl rfl rfl rfl ?_
     refine o_pf rfl rfl rfl ?_
     exact o_sub (sr (Sub.skip rfl (Sub.skip rfl (Sub.skip rfl (Sub.skip rfl (Sub.refl _)))))) hk
    refine o_nil (q_then ?_)
    refine c_cond rfl (fun hc102 => ?_) (fun hc102 => ?_)
    ·simp only [Bool.and_eq_true, decide_eq_true_eq, beq_iff_eq] at hc102
     have hgo := hc102
     have hre := Cmp.re_ok.1 (hj2 ▸ hc102.1.2)
     have hok0 := Cmp.chk_ok.1 hre.1
     have hH6 : hits.length = 5 := by rw [hH]; exact Cmp.hits_len hre.1
     refine c_skip (q_then (c_seq (c_block (c_seq ?_))))
     refine c_draw hmix (by kernel_rfl) ?_
     refine w_mv rfl rfl ?_
     refine w_mv rfl rfl ?_
     refine w_mv rfl rfl ?_
     refine w_call0 (v := Vi (Cmp.by_ l r policy)) rfl (contestHits_ok l al cl r policy (by first | assumption | exact ⟨hok.1, by omega, by omega⟩ | exact ⟨hok0.1, by omega, by omega⟩)) hf9 (fun w hw => (rd_base (i := 4) rfl hl) w hw) rfl ?_
     refine w_mv rfl rfl ?_
     refine w_p (p_indexAddr (L := hits) (T := tInt) (i := 4) rfl rfl (rd_own (i := 1) rfl) Tryz.underlying22 sz3 (by omega) (by omega)) ?_
     refine w_p (p_loadE1 (i := 4) (T := tInt) (L := hits) (v := Vi (hits.getD 4 default)) rfl (rd_own (i := 1) rfl) (by first | assumption | omega) sh3 (congrArg tInt.enc (getd_at (by first | assumption | omega) default))) ?_
     refine w_p (p_ge rfl rfl) ?_
     refine w_nil (q_then ?_)
     refine c_cond rfl (fun hc103 => ?_) (fun hc103 => ?_)
     ·simp only [decide_eq_true_eq] at hc103
      refine c_region ?_
      refine o_mv rfl rfl ?_
      refine o_as rfl rfl ?_
      refine o_nil ?_
      refine q_block_normal (q_then ?_)
      refine c_region ?_
      refine o_mv rfl rfl ?_
      refine o_p (p_addb rfl rfl (by omega)) ?_
      refine o_as rfl rfl ?_
      refine o_nil ?_
      refine q_round hK99 (r, (r + 1)) ?_ ?_ ?_ ?_
      ·clear hK99
       first | exact hI.take_ (by omega) hgo.1.2 hgo.2 (by omega) | exact hI.skip (by omega) hgo.1.2 hgo.2 (by omega)
      ·(try dsimp only); omega
      ·exact sr (sr (sr (sr (sr (sr (sr (sr (sr (sr (sr (sr (sr (sr (Sub.nil _))))))))))))))
      ·exact pk [0, 1, 2, 3, 4]
     ·simp only [decide_eq_false_iff_not, Int.not_le] at hc103
      refine c_skip ?_
      refine q_block_normal (q_then ?_)
      refine c_region ?_
      refine o_mv rfl rfl ?_
      refine o_p (p_addb rfl rfl (by omega)) ?_
      refine o_as rfl rfl ?_
      refine o_nil ?_
      refine q_round hK99 (least, (r + 1)) ?_ ?_ ?_ ?_
      ·clear hK99
       first | exact hI.take_ (by omega) hgo.1.2 hgo.2 (by omega) | exact hI.skip (by omega) hgo.1.2 hgo.2 (by omega)
      ·(try dsimp only); omega
      ·exact sr (sr (sr (sr (sr (sr (sr (sr (sr (sr (sr (sr (sr (sr (Sub.nil _))))))))))))))
      ·exact pk [0, 1, 2, 3, 4]
    ·simp only [Bool.and_eq_false_iff, decide_eq_false_iff_not, Int.not_le, beq_eq_false_iff_ne, ne_eq] at hc102
     have hrf := Cmp.room_fin hj2 (hH ▸ hI) hc102
     refine c_exit ?_
     refine q_then_exit (q_then_exit (q_block_exit (q_then ?_)))
     refine c_seq (c_seq (c_region ?_))
     refine o_mv rfl rfl ?_
     refine o_p (p_eq rfl rfl) ?_
     refine o_mv rfl rfl ?_
     refine o_and (p := 148) 3 (least == 0) ?_ ?_ ?_
     ·intro hb104 hk
      simp only [beq_iff_eq] at hb104
      refine o_unguard 145 rfl rfl ?_
      refine o_mv rfl rfl ?_
      refine o_unguard 145 rfl rfl ?_
      refine o_p (p_eq rfl rfl) ?_
      refine o_pt rfl rfl rfl ?_
      exact o_sub (sr (Sub.skip rfl (Sub.skip rfl (Sub.skip rfl (Sub.skip rfl (Sub.refl _)))))) hk
     ·intro hb104 hk
      refine o_guard_no rfl 145 rfl rfl rfl rfl rfl ?_
      refine o_guard_no rfl 145 rfl rfl rfl rfl rfl ?_
      refine o_pf rfl rfl rfl ?_
      exact o_sub (sr (Sub.skip rfl (Sub.skip rfl (Sub.skip rfl (Sub.skip rfl (Sub.refl _)))))) hk
     refine o_nil (q_then ?_)
     refine c_join (G := Int)
      (fun ve => [(7, .slice a59 (Cmp.hits l room).length c60), (8, Vi (Cmp.check l room)), (9, .slice a64 (Cmp.rank l room).length c65), (10, Vi (Cmp.check l room)), (11, Vi (Cmp.room l room policy)), (12, Vi (Cmp.roomErr l room policy)), (13, Vi wf), (14, Vi ve), (15, Vi least), (16, .slice ahits hits.length chits), (17, .slice aorder order.length corder)])
      (fun ve => [own tInt Sorder aorder corder order, own tInt Shits ahits chits hits, own tInt S62 a64 c65 (Cmp.rank l room), own tInt S57 a59 c60 (Cmp.hits l room), base w0])
      (fun ve => ve = Cmp.roomErr l room policy)
      (fun K hK105 => ?_) ?_
     ·refine c_cond rfl (fun hc106 => ?_) (fun hc106 => ?_)
      ·simp only [Bool.and_eq_true, beq_iff_eq] at hc106
       have hjc := hc106
       refine c_region ?_
       refine o_as rfl rfl ?_
       refine o_nil ?_
       refine q_join hK105 5 ?_ (sr (sr (sr (sr (sr (sr (sr (sr (sr (sr (sr (Sub.nil _)))))))))))) (pk [0, 1, 2, 3, 4])
       clear hK105
       first | exact hrf.1 hjc | exact hrf.2.1 hjc
      ·simp only [Bool.and_eq_false_iff, beq_eq_false_iff_ne, ne_eq] at hc106
       have hjc := hc106
       refine c_skip ?_
       refine q_join hK105 vf ?_ (sr (sr (sr (sr (sr (sr (sr (sr (sr (sr (sr (Sub.nil _)))))))))))) (pk [0, 1, 2, 3, 4])
       clear hK105
       first | exact hrf.1 hjc | exact hrf.2.1 hjc
     rintro ve hj3
     show SQ _ 180 w0 _ _ [(7, .slice a59 (Cmp.hits l room).length c60), (8, Vi (Cmp.check l room)), (9, .slice a64 (Cmp.rank l room).length c65), (10, Vi (Cmp.check l room)), (11, Vi (Cmp.room l room policy)), (12, Vi (Cmp.roomErr l room policy)), (13, Vi wf), (14, Vi ve), (15, Vi least), (16, .slice ahits hits.length chits), (17, .slice aorder order.length corder)] [own tInt Sorder aorder corder order, own tInt Shits ahits chits hits, own tInt S62 a64 c65 (Cmp.rank l room), own tInt S57 a59 c60 (Cmp.hits l room), base w0]
     refine q_then (c_seq (c_region ?_))
     refine o_call0 (v := .bool true) rfl (contestBegun_ok ) hf11 (fun _ _ => trivial) rfl ?_
     refine o_mv rfl rfl ?_
     refine o_unguard 150 rfl rfl ?_
     refine o_mv rfl rfl ?_
     refine o_unguard 150 rfl rfl ?_
     refine o_mv rfl rfl ?_
     refine o_unguard 150 rfl rfl ?_
     refine o_call0 (v := .bool (Ref.sameInts (Cmp.hits l room) hits)) rfl (sameInts_ok (Cmp.hits l room) a59 c60 hits ahits chits) hf12 (fun w hw => ⟨(rd_own (i := 3) rfl) w hw, (rd_own (i := 1) rfl) w hw⟩) rfl ?_
     refine o_pt rfl rfl rfl ?_
     refine o_mv rfl rfl ?_
     refine o_and (p := 159) 4 ((Cmp.check l room) == wf) ?_ ?_ ?_
     ·intro hb107 hk
      skip
      refine o_unguard 155 rfl rfl ?_
      refine o_mv rfl rfl ?_
      refine o_unguard 155 rfl rfl ?_
      refine o_mv rfl rfl ?_
      refine o_unguard 155 rfl rfl ?_
      refine o_p (p_eq rfl rfl) ?_
      refine o_pt rfl rfl rfl ?_
      exact o_sub (sr (Sub.skip rfl (Sub.skip rfl (Sub.skip rfl (Sub.skip rfl (Sub.skip rfl (Sub.refl _))))))) hk
     ·intro hb107 hk
      refine o_guard_no rfl 155 rfl rfl rfl rfl rfl ?_
      refine o_guard_no rfl 155 rfl rfl rfl rfl rfl ?_
      refine o_guard_no rfl 155 rfl rfl rfl rfl rfl ?_
      refine o_pf rfl rfl rfl ?_
      exact o_sub (sr (Sub.skip rfl (Sub.skip rfl (Sub.skip rfl (Sub.skip rfl (Sub.skip rfl (Sub.refl _))))))) hk
     refine o_mv rfl rfl ?_
     refine o_and (p := 164) 4 (Ref.sameInts (Cmp.rank l room) order) ?_ ?_ ?_
     ·intro hb108 hk
      simp only [Bool.and_eq_true, beq_iff_eq] at hb108
      refine o_unguard 160 rfl rfl ?_
      refine o_mv rfl rfl ?_
      refine o_unguard 160 rfl rfl ?_
      refine o_mv rfl rfl ?_
      refine o_unguard 160 rfl rfl ?_
      refine o_call0 (v := .bool (Ref.sameInts (Cmp.rank l room) order)) rfl (sameInts_ok (Cmp.rank l room) a64 c65 order aorder corder) hf12 (fun w hw => ⟨(rd_own (i := 2) rfl) w hw, (rd_own (i := 0) rfl) w hw⟩) rfl ?_
      refine o_pt rfl rfl rfl ?_
      exact o_sub (sr (Sub.skip rfl (Sub.skip rfl (Sub.skip rfl (Sub.skip rfl (Sub.skip rfl (Sub.refl _))))))) hk
     ·intro hb108 hk
      refine o_guard_no rfl 160 rfl rfl rfl rfl rfl ?_
      refine o_guard_no rfl 160 rfl rfl rfl rfl rfl ?_
      refine o_guard_no rfl 160 rfl rfl rfl rfl rfl ?_
      refine o_pf rfl rfl rfl ?_
      exact o_sub (sr (Sub.skip rfl (Sub.skip rfl (Sub.skip rfl (Sub.skip rfl (Sub.skip rfl (Sub.refl _))))))) hk
     refine o_mv rfl rfl ?_
     refine o_and (p := 169) 4 ((Cmp.check l room) == wf) ?_ ?_ ?_
     ·intro hb109 hk
      simp only [Bool.and_eq_true, beq_iff_eq] at hb109
      refine o_unguard 165 rfl rfl ?_
      refine o_mv rfl rfl ?_
      refine o_unguard 165 rfl rfl ?_
      refine o_mv rfl rfl ?_
      refine o_unguard 165 rfl rfl ?_
      refine o_p (p_eq rfl rfl) ?_
      refine o_pt rfl rfl rfl ?_
      exact o_sub (sr (Sub.skip rfl (Sub.skip rfl (Sub.skip rfl (Sub.skip rfl (Sub.skip rfl (Sub.refl _))))))) hk
     ·intro hb109 hk
      refine o_guard_no rfl 165 rfl rfl rfl rfl rfl ?_
      refine o_guard_no rfl 165 rfl rfl rfl rfl rfl ?_
      refine o_guard_no rfl 165 rfl rfl rfl rfl rfl ?_
      refine o_pf rfl rfl rfl ?_
      exact o_sub (sr (Sub.skip rfl (Sub.skip rfl (Sub.skip rfl (Sub.skip rfl (Sub.skip rfl (Sub.refl _))))))) hk
     refine o_mv rfl rfl ?_
     refine o_and (p := 174) 4 ((Cmp.room l room policy) == least) ?_ ?_ ?_
     ·intro hb110 hk
      simp only [Bool.and_eq_true, beq_iff_eq] at hb110
      refine o_unguard 170 rfl rfl ?_
      refine o_mv rfl rfl ?_
      refine o_unguard 170 rfl rfl ?_
      refine o_mv rfl rfl ?_
      refine o_unguard 170 rfl rfl ?_
      refine o_p (p_eq rfl rfl) ?_
      refine o_pt rfl rfl rfl ?_
      exact o_sub (sr (Sub.skip rfl (Sub.skip rfl (Sub.skip rfl (Sub.skip rfl (Sub.skip rfl (Sub.refl _))))))) hk
     ·intro hb110 hk
      refine o_guard_no rfl 170 rfl rfl rfl rfl rfl ?_
      refine o_guard_no rfl 170 rfl rfl rfl rfl rfl ?_
      refine o_guard_no rfl 170 rfl rfl rfl rfl rfl ?_
      refine o_pf rfl rfl rfl ?_
      exact o_sub (sr (Sub.skip rfl (Sub.skip rfl (Sub.skip rfl (Sub.skip rfl (Sub.skip rfl (Sub.refl _))))))) hk
     refine o_mv rfl rfl ?_
     refine o_and (p := 179) 4 ((Cmp.roomErr l room policy) == ve) ?_ ?_ ?_
     ·intro hb111 hk
      simp only [Bool.and_eq_true, beq_iff_eq] at hb111
      refine o_unguard 175 rfl rfl ?_
      refine o_mv rfl rfl ?_
      refine o_unguard 175 rfl rfl ?_
      refine o_mv rfl rfl ?_
      refine o_unguard 175 rfl rfl ?_
      refine o_p (p_eq rfl rfl) ?_
      refine o_pt rfl rfl rfl ?_
      exact o_sub (sr (Sub.skip rfl (Sub.skip rfl (Sub.skip rfl (Sub.skip rfl (Sub.skip rfl (Sub.refl _))))))) hk
     ·intro hb111 hk
      refine o_guard_no rfl 175 rfl rfl rfl rfl rfl ?_
      refine o_guard_no rfl 175 rfl rfl rfl rfl rfl ?_
      refine o_guard_no rfl 175 rfl rfl rfl rfl rfl ?_
      refine o_pf rfl rfl rfl ?_
      exact o_sub (sr (Sub.skip rfl (Sub.skip rfl (Sub.skip rfl (Sub.skip rfl (Sub.skip rfl (Sub.refl _))))))) hk
     refine o_as rfl rfl ?_
     refine o_nil (q_then (c_ret ?_))
     have hr0 : (((((((Ref.sameInts (Cmp.hits l room) hits) && ((Cmp.check l room) == wf)) && (Ref.sameInts (Cmp.rank l room) order)) && ((Cmp.check l room) == wf)) && ((Cmp.room l room policy) == least)) && ((Cmp.roomErr l room policy) == ve)) : Bool) = true := by
      rw [hrk, hrf.2.2, ← hH, ← hj1, ← hj3]; simp [Ref.sameInts]
     refine q_end0 (v := .bool ((((((Ref.sameInts (Cmp.hits l room) hits) && ((Cmp.check l room) == wf)) && (Ref.sameInts (Cmp.rank l room) order)) && ((Cmp.check l room) == wf)) && ((Cmp.room l room policy) == least)) && ((Cmp.roomErr l room policy) == ve))) (rt1 rfl (r_tmp rfl)) (i := 4) rfl ?_
     exact (by have hcc := congrArg (fun (y0 : Bool) => (.bool y0 : Value)) hr0; exact hcc)
end Go.Proofs.YtfncgfcehkalnaaGreat

/- How the arguments read. -/
namespace Go.Proofs.YtfncgfcehkalnaaGreat
open Go.ChangeShapes Go.WideShapes Go.ChangeAt Go.RowKit Go.Sx

end Go.Proofs.YtfncgfcehkalnaaGreat
