/- The walks, printed by a program from the translation and a specification. -/
import Derived.Test.YtnmbkopnopaigaaTtF
import Derived.Test.YtnmbkopnopaigaaExPureM20
import Derived.Test.YtnmbkopnopaigaaLrLawM2
import Derived.Test.YtnmbkopnopaigaaTtW3
import Derived.Test.YtnmbkopnopaigaaSx29M2
import Derived.Test.YtnmbkopnopaigaaTtW1M2
namespace Go.Proofs.Ytnmbkopnopaigaa
open Go.Sx Go.RowKit
set_option maxHeartbeats 8000000 in
set_option maxRecDepth 100000 in
theorem wadvance_ok (wh : DWheel) (awh_0 : Option Addr) (cwh_0 : NC) (to : Int) : FnX Try.prog 32 [.agg #[Vi wh.now, .slice awh_0 wh.slots.length cwh_0.n], Vi to] [] (fun w => SlRN tTimer (outer w []).S w awh_0 cwh_0 wh.slots) (Option Addr × NC × (Nat → Prop) × Option Addr × Nat × (Nat → Prop)) (fun p => .tuple #[.agg #[Vi ((Wh.adv wh to).now), .slice p.1 ((Wh.adv wh to).slots).length p.2.1.n], .slice p.2.2.2.1 (Wh.gone wh to).length p.2.2.2.2.1, Vi (Wh.advErr wh to)]) (fun p => [ownN tTimer p.2.2.1 p.1 p.2.1 ((Wh.adv wh to).slots), own tTimer p.2.2.2.2.2 p.2.2.2.1 p.2.2.2.2.1 (Wh.gone wh to)]) := by
 refine fnXR (nt := 52) (F0 := [(0, .agg #[Vi wh.now, .slice awh_0 wh.slots.length cwh_0.n]), (1, Vi to)]) Try.func32 rfl Try.ntmps32 rfl rfl (fun w0 hpre => ?_)
 have hwh_0 := hpre
 have hlhwh_0 := hwh_0.2.1
 refine c_seq (c_region ?_)
 refine o_box (v := .agg #[Vi wh.now, .slice awh_0 wh.slots.length cwh_0.n]) rfl rfl (fun B1 => ?_)
 refine o_box (v := Vi to) rfl rfl (fun B2 => ?_)
 refine o_alloc ze50 rfl (fun B3 => ?_)
 refine o_as rfl rfl ?_
 refine o_as rfl rfl ?_
 refine o_nil (q_then (c_seq (c_region ?_)))
 refine o_p (p_load_agg (i := 2) (vs := [Vi wh.now, .slice awh_0 wh.slots.length cwh_0.n]) rfl rfl sh50 rfl rfl) ?_
 refine o_call0 (v := Vi (Wh.check wh)) rfl (wcheck_ok wh awh_0 cwh_0) hf41 (fun w hw => (rd_outerN (i := 3) rfl hwh_0) w hw) rfl ?_
 refine o_as rfl rfl ?_
 refine o_nil (q_then (c_seq (c_block (c_seq (c_region ?_)))))
 refine o_mv rfl rfl ?_
 refine o_p (p_ne rfl rfl) ?_
 refine o_as rfl rfl ?_
 refine o_nil (q_then ?_)
 refine c_cond rfl (fun hc4 => ?_) (fun hc4 => ?_)
 ·simp only [bne_iff_ne, ne_eq] at hc4
  have hch := hc4
  refine c_skip ?_
  refine q_block_normal (q_then ?_)
  refine c_seq (c_seq (c_region ?_))
  refine o_mv rfl rfl ?_
  refine o_p (p_ne rfl rfl) ?_
  refine o_nil (q_then ?_)
  refine c_cond rfl (fun hc5 => ?_) (fun hc5 => ?_)
  ·simp only [bne_iff_ne, ne_eq] at hc5
   refine c_seq (c_region ?_)
   refine o_p (p_build (cells := [Vi 0, .slice none 0 0]) fp50 ze50 rfl rfl) ?_
   refine o_mv rfl rfl ?_
   refine o_storeN (i := 0) (vs := [Vi 0, .slice none 0 0]) (cs' := [Vi 0, .slice none 0 0]) rfl rfl rfl sz50 rfl rfl rfl rfl ?_
   refine o_as rfl rfl ?_
   refine o_as rfl rfl ?_
   refine o_nil (q_then (c_ret ?_))
   refine q_then_ret ?_
   refine q_marks0 ?_
   obtain ⟨c1, c2, c3⟩ : _ ∧ _ ∧ _ := by first | exact Wh.av1 (w := wh) (to := to) hch | exact Wh.av2 (w := wh) (to := to) hch hot | exact Wh.av3 (w := wh) (to := to) hch hot (by omega) | exact Wh.av4 hok hot (by omega) hI
   have hr0 : (0 : Int) = (Wh.adv wh to).now := by
    first | (rw [c1]; done) | (rw [c1]; rfl) | (rw [c2]; done) | exact c2 | exact c2.symm | exact c3.symm
   have hr1 : ([] : List (List DTimer)) = (Wh.adv wh to).slots := by
    first | (rw [c1]; done) | (rw [c1]; rfl) | (rw [c2]; done) | exact c2 | exact c2.symm | exact c3.symm
   have hr2 : ([] : List DTimer) = (Wh.gone wh to) := by
    first | (rw [c1]; done) | (rw [c1]; rfl) | (rw [c2]; done) | exact c2 | exact c2.symm | exact c3.symm
   have hr3 : ((Wh.check wh) : Int) = (Wh.advErr wh to) := by
    first | (rw [c1]; done) | (rw [c1]; rfl) | (rw [c2]; done) | exact c2 | exact c2.symm | exact c3.symm
   refine q_ownNilN tTimer ?_
   refine q_ownNil tTimer ?_
   refine q_endX (p := (none, nc0, (fun _ => False), none, 0, (fun _ => False))) (rt3 rfl (r_cell (i := 2) rfl rfl sh50 rfl) (r_tmp rfl) (r_tmp rfl)) ?_ (fun w hw => ?_)
   ·exact (by have hcc := congr (congr (congr (congrArg (fun (y0 : Int) (y1 : List (List DTimer)) (y2 : List DTimer) (y3 : Int) => (.tuple #[.agg #[.int .i64 y0, .slice none y1.length 0], .slice none y2.length 0, .int .i64 y3] : Value)) hr0) hr1) hr2) hr3; exact hcc)
   ·have h2 := hw.pick (H' := [outer w0 [], ownN tTimer (fun _ => False) none nc0 ([]), own tTimer (fun _ => False) none 0 ([])]) [5, 1, 0] (by decide) rfl
    exact Eq.mp (congrArg (fun z => HeapIs w0 ((outer w0 []) :: z) w) ((by have hcc := congr (congr (congr (congrArg (fun (y0 : Int) (y1 : List (List DTimer)) (y2 : List DTimer) (y3 : Int) => ([ownN tTimer (fun _ => False) none nc0 y1, own tTimer (fun _ => False) none 0 y2] : List Ent)) hr0) hr1) hr2) hr3; exact hcc))) h2
  ·simp only [bne_eq_false_iff_eq] at hc5
   exfalso; first | contradiction | omega | simp_all
 ·simp only [bne_eq_false_iff_eq] at hc4
  have hch : Wh.check wh = 0 := by omega
  have hok := Wh.check_ok.1 hch
  have hrows := hok.rows
  have hnw := hok.now
  refine c_seq (c_region ?_)
  refine o_p (p_load (i := 1) (v := Vi to) rfl rfl sh3 rfl) ?_
  refine o_call0 (v := .bool (Wh.okTime to)) rfl (wtime_ok to) hf65 (fun _ _ => trivial) rfl ?_
  refine o_p (p_not (b := (Wh.okTime to)) rfl) ?_
  refine o_as rfl rfl ?_
  refine o_nil (q_then ?_)
  refine c_cond rfl (fun hc8 => ?_) (fun hc8 => ?_)
  ·simp only [Bool.not_eq_true'] at hc8
   have hot : Wh.okTime to = false := by simpa using hc8
   refine c_region ?_
   refine o_as rfl rfl ?_
   refine o_nil ?_
   refine q_block_normal (q_then ?_)
   refine c_seq (c_seq (c_region ?_))
   refine o_mv rfl rfl ?_
   refine o_p (p_ne rfl rfl) ?_
   refine o_nil (q_then ?_)
   refine c_true rfl ?_
   refine c_seq (c_region ?_)
   refine o_p (p_build (cells := [Vi 0, .slice none 0 0]) fp50 ze50 rfl rfl) ?_
   refine o_mv rfl rfl ?_
   refine o_storeN (i := 0) (vs := [Vi 0, .slice none 0 0]) (cs' := [Vi 0, .slice none 0 0]) rfl rfl rfl sz50 rfl rfl rfl rfl ?_
   refine o_as rfl rfl ?_
   refine o_as rfl rfl ?_
   refine o_nil (q_then (c_ret ?_))
   refine q_then_ret ?_
   refine q_marks0 ?_
   obtain ⟨c1, c2, c3⟩ : _ ∧ _ ∧ _ := by first | exact Wh.av1 (w := wh) (to := to) hch | exact Wh.av2 (w := wh) (to := to) hch hot | exact Wh.av3 (w := wh) (to := to) hch hot (by omega) | exact Wh.av4 hok hot (by omega) hI
   have hr0 : (0 : Int) = (Wh.adv wh to).now := by
    first | (rw [c1]; done) | (rw [c1]; rfl) | (rw [c2]; done) | exact c2 | exact c2.symm | exact c3.symm
   have hr1 : ([] : List (List DTimer)) = (Wh.adv wh to).slots := by
    first | (rw [c1]; done) | (rw [c1]; rfl) | (rw [c2]; done) | exact c2 | exact c2.symm | exact c3.symm
   have hr2 : ([] : List DTimer) = (Wh.gone wh to) := by
    first | (rw [c1]; done) | (rw [c1]; rfl) | (rw [c2]; done) | exact c2 | exact c2.symm | exact c3.symm
   have hr3 : (3 : Int) = (Wh.advErr wh to) := by
    first | (rw [c1]; done) | (rw [c1]; rfl) | (rw [c2]; done) | exact c2 | exact c2.symm | exact c3.symm
   refine q_ownNilN tTimer ?_
   refine q_ownNil tTimer ?_
   refine q_endX (p := (none, nc0, (fun _ => False), none, 0, (fun _ => False))) (rt3 rfl (r_cell (i := 2) rfl rfl sh50 rfl) (r_tmp rfl) (r_tmp rfl)) ?_ (fun w hw => ?_)
   ·exact (by have hcc := congr (congr (congr (congrArg (fun (y0 : Int) (y1 : List (List DTimer)) (y2 : List DTimer) (y3 : Int) => (.tuple #[.agg #[.int .i64 y0, .slice none y1.length 0], .slice none y2.length 0, .int .i64 y3] : Value)) hr0) hr1) hr2) hr3; exact hcc)
   ·have h2 := hw.pick (H' := [outer w0 [], ownN tTimer (fun _ => False) none nc0 ([]), own tTimer (fun _ => False) none 0 ([])]) [5, 1, 0] (by decide) rfl
    exact Eq.mp (congrArg (fun z => HeapIs w0 ((outer w0 []) :: z) w) ((by have hcc := congr (congr (congr (congrArg (fun (y0 : Int) (y1 : List (List DTimer)) (y2 : List DTimer) (y3 : Int) => ([ownN tTimer (fun _ => False) none nc0 y1, own tTimer (fun _ => False) none 0 y2] : List Ent)) hr0) hr1) hr2) hr3; exact hcc))) h2
  ·simp only [Bool.not_eq_false'] at hc8
   have hot : Wh.okTime to = true := by simpa using hc8
   have hto := Wh.okTime_iff.1 hot
   refine c_seq (c_region ?_)
   refine o_p (p_load (i := 1) (v := Vi to) rfl rfl sh3 rfl) ?_
   refine o_p (p_fieldAddr (j' := 0) rfl fo50_0 rfl) ?_
   refine o_p (p_load (i := 2) (v := Vi wh.now) rfl rfl sh3 rfl) ?_
   refine o_p (p_lt rfl rfl) ?_
   refine o_as rfl rfl ?_
   refine o_nil (q_then ?_)
   refine c_cond rfl (fun hc11 => ?_) (fun hc11 => ?_)
   ·simp only [decide_eq_true_eq] at hc11
    have hlt := hc11
    refine c_region ?_
    refine o_as rfl rfl ?_
    refine o_nil ?_
    refine q_block_normal (q_then ?_)
    refine c_seq (c_seq (c_region ?_))
    refine o_mv rfl rfl ?_
    refine o_p (p_ne rfl rfl) ?_
    refine o_nil (q_then ?_)
    refine c_true rfl ?_
    refine c_seq (c_region ?_)
    refine o_p (p_build (cells := [Vi 0, .slice none 0 0]) fp50 ze50 rfl rfl) ?_
    refine o_mv rfl rfl ?_
    refine o_storeN (i := 0) (vs := [Vi 0, .slice none 0 0]) (cs' := [Vi 0, .slice none 0 0]) rfl rfl rfl sz50 rfl rfl rfl rfl ?_
    refine o_as rfl rfl ?_
    refine o_as rfl rfl ?_
    refine o_nil (q_then (c_ret ?_))
    refine q_then_ret ?_
    refine q_marks0 ?_
    obtain ⟨c1, c2, c3⟩ : _ ∧ _ ∧ _ := by first | exact Wh.av1 (w := wh) (to := to) hch | exact Wh.av2 (w := wh) (to := to) hch hot | exact Wh.av3 (w := wh) (to := to) hch hot (by omega) | exact Wh.av4 hok hot (by omega) hI
    have hr0 : (0 : Int) = (Wh.adv wh to).now := by
     first | (rw [c1]; done) | (rw [c1]; rfl) | (rw [c2]; done) | exact c2 | exact c2.symm | exact c3.symm
    have hr1 : ([] : List (List DTimer)) = (Wh.adv wh to).slots := by
     first | (rw [c1]; done) | (rw [c1]; rfl) | (rw [c2]; done) | exact c2 | exact c2.symm | exact c3.symm
    have hr2 : ([] : List DTimer) = (Wh.gone wh to) := by
     first | (rw [c1]; done) | (rw [c1]; rfl) | (rw [c2]; done) | exact c2 | exact c2.symm | exact c3.symm
    have hr3 : (4 : Int) = (Wh.advErr wh to) := by
     first | (rw [c1]; done) | (rw [c1]; rfl) | (rw [c2]; done) | exact c2 | exact c2.symm | exact c3.symm
    refine q_ownNilN tTimer ?_
    refine q_ownNil tTimer ?_
    refine q_endX (p := (none, nc0, (fun _ => False), none, 0, (fun _ => False))) (rt3 rfl (r_cell (i := 2) rfl rfl sh50 rfl) (r_tmp rfl) (r_tmp rfl)) ?_ (fun w hw => ?_)
    ·exact (by have hcc := congr (congr (congr (congrArg (fun (y0 : Int) (y1 : List (List DTimer)) (y2 : List DTimer) (y3 : Int) => (.tuple #[.agg #[.int .i64 y0, .slice none y1.length 0], .slice none y2.length 0, .int .i64 y3] : Value)) hr0) hr1) hr2) hr3; exact hcc)
    ·have h2 := hw.pick (H' := [outer w0 [], ownN tTimer (fun _ => False) none nc0 ([]), own tTimer (fun _ => False) none 0 ([])]) [5, 1, 0] (by decide) rfl
     exact Eq.mp (congrArg (fun z => HeapIs w0 ((outer w0 []) :: z) w) ((by have hcc := congr (congr (congr (congrArg (fun (y0 : Int) (y1 : List (List DTimer)) (y2 : List DTimer) (y3 : Int) => ([ownN tTimer (fun _ => False) none nc0 y1, own tTimer (fun _ => False) none 0 y2] : List Ent)) hr0) hr1) hr2) hr3; exact hcc))) h2
   ·simp only [decide_eq_false_iff_not, Int.not_lt] at hc11
    have hlt := hc11
    refine c_skip ?_
    refine q_block_normal (q_then ?_)
    refine c_seq (c_seq (c_region ?_))
    refine o_mv rfl rfl ?_
    refine o_p (p_ne rfl rfl) ?_
    refine o_nil (q_then ?_)
    refine c_cond rfl (fun hc14 => ?_) (fun hc14 => ?_)
    ·simp only [bne_iff_ne, ne_eq] at hc14
     exfalso; first | contradiction | omega | simp_all
    ·simp only [bne_eq_false_iff_eq] at hc14
     refine c_skip (q_then (c_seq ?_))
     refine c_cutN (G := Option Addr × (Nat → Prop) × Nat) (fun ⟨a15_1, S15_1, B15_3⟩ => [(2, .pointer (some ⟨B1, 0, none⟩)), (3, .pointer (some ⟨B2, 0, none⟩)), (4, .pointer (some ⟨B3, 0, none⟩)), (8, .pointer (some ⟨B15_3, 0, none⟩))]) (fun ⟨a15_1, S15_1, B15_3⟩ => [box B15_3 [Vi to, .slice a15_1 (List.replicate 48 ([] : List DTimer)).length (ncz 48).n] 50, ownN tTimer S15_1 a15_1 (ncz 48) (List.replicate 48 ([] : List DTimer)), box B3 [Vi 0, .slice none 0 0] 50, box B2 [Vi to] 3, box B1 [Vi wh.now, .slice awh_0 wh.slots.length cwh_0.n] 50, outer w0 []]) (fun K hK16 => ?_) ?_
     ·refine c_held hmix [box B3 [Vi 0, .slice none 0 0] 50, box B2 [Vi to] 3, box B1 [Vi wh.now, .slice awh_0 wh.slots.length cwh_0.n] 50, outer w0 []] rfl rfl ?_
      refine h_t0 (i := 0) (ls := #[T1,F0,F0,F0,F0]) rfl (p_load (i := 1) (v := Vi to) rfl rfl sh3 rfl) ?_
      refine h_two (i := 1) (j := 3) (ls := #[T1,T1,F0,F0,F0]) (ls' := #[T1,F0,F0,T1,F0]) (by kernel_rfl) rfl rfl rfl rfl ?_ ?_
      ·refine o_makeSliceN (T := tTimer) (m := 48) rfl rfl Try.underlying48 el57 ze57 rfl (by omega) (by omega) rfl (fun S15_1 a15_1 => ?_)
       refine o_nil ?_
       refine h_next (dp (lz (lj (lj (lj (lj (ln))))))) ?_
       refine h_tk (i := 2) (ls := #[T1,T1,T1,F0,F0]) rfl (p_build (cells := [Vi to, .slice a15_1 (List.replicate 48 ([] : List DTimer)).length (ncz 48).n]) fp50 ze50 rfl rfl) (dp (lz (lj (lj (lj (lj (ln))))))) ?_
       refine h_one (i := 3) (ls := #[T1,T1,T1,T1,F0]) (by kernel_rfl) rfl rfl ?_
       refine o_alloc ze50 rfl (fun B15_3 => ?_)
       refine o_nil ?_
       refine h_next (dp (lz (lz (lj (lj (lj (lj (ln)))))))) ?_
       refine h_one (i := 4) (ls := #[T1,T1,T1,T1,T1]) (by kernel_rfl) rfl rfl ?_
       refine o_storeN (i := 0) (vs := [Vi to, .slice a15_1 (List.replicate 48 ([] : List DTimer)).length (ncz 48).n]) (cs' := [Vi to, .slice a15_1 (List.replicate 48 ([] : List DTimer)).length (ncz 48).n]) rfl rfl rfl sz50 rfl rfl rfl rfl ?_
       refine o_nil ?_
       refine h_next (dp (lz (lz (lj (lj (lj (lj (ln)))))))) ?_
       refine h_done (by kernel_rfl) ?_
       refine q_kontN hK16 (a15_1, S15_1, B15_3) (sr (sr (sr (sr (Sub.nil _))))) (pk [0, 1, 2, 3, 4, 5])
      ·refine o_alloc ze50 rfl (fun B15_3 => ?_)
       refine o_nil ?_
       refine h_next (dp (lz (lj (lj (lj (lj (ln))))))) ?_
       refine h_one (i := 1) (ls := #[T1,T1,F0,T1,F0]) (by kernel_rfl) rfl rfl ?_
       refine o_makeSliceN (T := tTimer) (m := 48) rfl rfl Try.underlying48 el57 ze57 rfl (by omega) (by omega) rfl (fun S15_1 a15_1 => ?_)
       refine o_nil ?_
       refine h_next (dp (lz (lz (lj (lj (lj (lj (ln)))))))) ?_
       refine h_tk (i := 2) (ls := #[T1,T1,T1,T1,F0]) rfl (p_build (cells := [Vi to, .slice a15_1 (List.replicate 48 ([] : List DTimer)).length (ncz 48).n]) fp50 ze50 rfl rfl) (dp (lz (lz (lj (lj (lj (lj (ln)))))))) ?_
       refine h_one (i := 4) (ls := #[T1,T1,T1,T1,T1]) (by kernel_rfl) rfl rfl ?_
       refine o_storeN (i := 1) (vs := [Vi to, .slice a15_1 (List.replicate 48 ([] : List DTimer)).length (ncz 48).n]) (cs' := [Vi to, .slice a15_1 (List.replicate 48 ([] : List DTimer)).length (ncz 48).n]) rfl rfl rfl sz50 rfl rfl rfl rfl ?_
       refine o_nil ?_
       refine h_next (dp (lz (lz (lj (lj (lj (lj (ln)))))))) ?_
       refine h_done (by kernel_rfl) ?_
       refine q_kontN hK16 (a15_1, S15_1, B15_3) (sr (sr (sr (sr (Sub.nil _))))) (pk [1, 0, 2, 3, 4, 5])
     rintro ⟨a15_1, S15_1, B15_3⟩
     show SQ _ 52 w0 _ _ [(2, .pointer (some ⟨B1, 0, none⟩)), (3, .pointer (some ⟨B2, 0, none⟩)), (4, .pointer (some ⟨B3, 0, none⟩)), (8, .pointer (some ⟨B15_3, 0, none⟩))] [box B15_3 [Vi to, .slice a15_1 (List.replicate 48 ([] : List DTimer)).length (ncz 48).n] 50, ownN tTimer S15_1 a15_1 (ncz 48) (List.replicate 48 ([] : List DTimer)), box B3 [Vi 0, .slice none 0 0] 50, box B2 [Vi to] 3, box B1 [Vi wh.now, .slice awh_0 wh.slots.length cwh_0.n] 50, outer w0 []]
     refine q_know (fun w hw => own_lenN (i := 1) (T := tTimer) hw rfl) (fun hlr17 => ?_)
     refine q_then (c_seq (c_region ?_))
     refine o_alloc ze57 rfl (fun B18 => ?_)
     refine o_nil (q_then (c_seq (c_seq (c_region ?_))))
     refine o_p (p_load_agg (i := 5) (vs := [Vi wh.now, .slice awh_0 wh.slots.length cwh_0.n]) rfl rfl sh50 rfl rfl) ?_
     refine o_callX (pre := []) (R := [box B18 [.slice none 0 0] 57, box B15_3 [Vi to, .slice a15_1 (List.replicate 48 ([] : List DTimer)).length (ncz 48).n] 50, ownN tTimer S15_1 a15_1 (ncz 48) (List.replicate 48 ([] : List DTimer)), box B3 [Vi 0, .slice none 0 0] 50, box B2 [Vi to] 3, box B1 [Vi wh.now, .slice awh_0 wh.slots.length cwh_0.n] 50, outer w0 []]) rfl (wall_ok wh awh_0 cwh_0) hf72 rfl (fun _ _ => trivial) rfl ?_
     rintro B19
     refine o_asH (H' := [box B19 [Vi wh.now, .slice awh_0 wh.slots.length cwh_0.n] 50, box B18 [.slice none 0 0] 57, box B15_3 [Vi to, .slice a15_1 (List.replicate 48 ([] : List DTimer)).length (ncz 48).n] 50, ownN tTimer S15_1 a15_1 (ncz 48) (List.replicate 48 ([] : List DTimer)), box B3 [Vi 0, .slice none 0 0] 50, box B2 [Vi to] 3, box B1 [Vi wh.now, .slice awh_0 wh.slots.length cwh_0.n] 50, outer w0 []]) rfl ?_
     refine o_nil (q_then (c_block ?_))
     refine c_ownNil tTimer ?_
     refine c_rangeFunc (f := 110) (caps := [.pointer (some ⟨B19, 0, none⟩)]) (Pr := (fun e w => ((box B19 [Vi wh.now, .slice awh_0 wh.slots.length cwh_0.n] 50).A w ∧ (outer w [e]).S B19) ∧ SlRN tTimer (outer w [e]).S w awh_0 cwh_0 wh.slots)) (X := Unit) (encs := (fun x k => [Vi (Wh.slotAt wh.slots k), .agg #[Vi ((Wh.timAt wh.slots k).id), Vi ((Wh.timAt wh.slots k).due)]])) (E := (fun x k => [])) (N := (Wh.timers wh.slots).length) rfl hf110 (wall1_ok wh awh_0 cwh_0 B19) (fun _ _ => rfl) (by decide) (St := DWheel × Option Addr × NC × (Nat → Prop) × List DTimer × Option Addr × Nat × (Nat → Prop))
      (fun ⟨oo, aoo_0, coo_0, Soo_0, gl, agl, cgl, Sgl⟩ => [own tTimer Sgl agl cgl gl, box B18 [.slice agl gl.length cgl] 57, box B15_3 [Vi oo.now, .slice aoo_0 oo.slots.length coo_0.n] 50, ownN tTimer Soo_0 aoo_0 coo_0 oo.slots])
      (fun k ⟨oo, aoo_0, coo_0, Soo_0, gl, agl, cgl, Sgl⟩ => (oo, gl) = Wh.advGo wh to k)
      (fun c ⟨oo, aoo_0, coo_0, Soo_0, gl, agl, cgl, Sgl⟩ => False)
      [box B19 [Vi wh.now, .slice awh_0 wh.slots.length cwh_0.n] 50, box B3 [Vi 0, .slice none 0 0] 50, box B2 [Vi to] 3, box B1 [Vi wh.now, .slice awh_0 wh.slots.length cwh_0.n] 50, outer w0 []]
      ((⟨to, (List.replicate 48 ([] : List DTimer))⟩ : DWheel), a15_1, (ncz 48), S15_1, [], none, 0, (fun _ => False)) ?_ ?_ ?_ ?_ ?_ ?_
     ·rfl
     ·exact fun w hw => hw.pick (H' := [own tTimer (fun _ => False) none 0 ([]), box B18 [.slice none 0 0] 57, box B15_3 [Vi to, .slice a15_1 (List.replicate 48 ([] : List DTimer)).length (ncz 48).n] 50, ownN tTimer S15_1 a15_1 (ncz 48) (List.replicate 48 ([] : List DTimer)), box B19 [Vi wh.now, .slice awh_0 wh.slots.length cwh_0.n] 50, box B3 [Vi 0, .slice none 0 0] 50, box B2 [Vi to] 3, box B1 [Vi wh.now, .slice awh_0 wh.slots.length cwh_0.n] 50, outer w0 []]) [0, 2, 3, 4, 1, 5, 6, 7, 8] (by decide) rfl
     ·intro D e0 W1 hW1
      exact ⟨boxX (i := 2) (js := [0]) rfl (by decide) rfl W1 hW1, (rdXN (i := 6) (js := [0]) rfl (by decide) rfl (fun _ hA => slR_outerN hwh_0 hA)) W1 hW1⟩
     ·rintro l_ rc D e0 W1 hW1 x_ k ⟨oo, aoo_0, coo_0, Soo_0, gl, agl, cgl, Sgl⟩ hk hI
      have hfit := Wh.adv_fit hok hto hk hI
      have hgl := Wh.adv_gl hok (by omega) hI
      have hol := hfit.len
      have hobr0_B2 := boxX (i := 4) (B := B2) (cs := [Vi to]) (U := 3) (js := [0]) (pre := [e0]) rfl (by decide) rfl W1 hW1
      refine c_region ?_
      refine o_alloc ze52 rfl (fun B21 => ?_)
      refine o_storeN (i := 0) (vs := [Vi ((Wh.timAt wh.slots k).id), Vi ((Wh.timAt wh.slots k).due)]) (cs' := [Vi ((Wh.timAt wh.slots k).id), Vi ((Wh.timAt wh.slots k).due)]) rfl rfl rfl sz52 rfl rfl rfl rfl ?_
      refine o_nil ?_
      refine q_begin (i := 2) rfl ?_
      refine c_block (c_seq (c_region ?_))
      refine o_p (p_fieldAddr (j' := 1) rfl fo52_1 rfl) ?_
      refine o_p (p_load (i := 0) (v := Vi ((Wh.timAt wh.slots k).due)) rfl rfl sh3 rfl) ?_
      refine o_p (p_loadR (v := Vi to) rfl (rbox_outer (i := 1) rfl hobr0_B2) sh3 rfl) ?_
      refine o_p (p_le rfl rfl) ?_
      refine o_nil (q_then ?_)
      refine c_cond rfl (fun hc22 => ?_) (fun hc22 => ?_)
      ·simp only [decide_eq_true_eq] at hc22
       have hle := hc22
       refine c_region ?_
       refine o_p (p_load (i := 4) (v := .slice agl gl.length cgl) rfl rfl sh57 rfl) ?_
       refine o_p (p_load_agg (i := 0) (vs := [Vi ((Wh.timAt wh.slots k).id), Vi ((Wh.timAt wh.slots k).due)]) rfl rfl sh52 rfl rfl) ?_
       refine o_buildSlice (m := 1) (T := tTimer) (L := [(⟨(Wh.timAt wh.slots k).id, (Wh.timAt wh.slots k).due⟩ : DTimer)]) (vs := [.agg #[Vi ((Wh.timAt wh.slots k).id), Vi ((Wh.timAt wh.slots k).due)]]) rfl rfl rfl rfl Try.underlying57 sz52 (by decide) ze52 rfl (by decide) rfl (fun S23 a24 => ?_)
       refine o_append (i := 4) (L := gl) (M := [(⟨(Wh.timAt wh.slots k).id, (Wh.timAt wh.slots k).due⟩ : DTimer)]) (T := tTimer) rfl rfl rfl (rd_own (i := 0) rfl) Try.underlying57 Try.underlying57 (by intro k h; cases h) el52 (by intro z; simp [tTimer, one1]) (by decide) (by first | omega | (simp only [List.length_cons, List.length_nil]; omega) | (simp only [List.length_append, List.length_cons, List.length_nil, List.length_take, List.length_drop]; omega)) rfl (fun a26 c27 S28 => ?_)
       refine o_store (i := 5) (v := .slice a26 (gl ++ [(⟨(Wh.timAt wh.slots k).id, (Wh.timAt wh.slots k).due⟩ : DTimer)]).length c27) (cs' := [.slice a26 (gl ++ [(⟨(Wh.timAt wh.slots k).id, (Wh.timAt wh.slots k).due⟩ : DTimer)]).length c27]) rfl rfl rfl sz57 rfl rfl rfl ?_
       refine o_nil ?_
       refine q_block_normal ?_
       refine q_next (oo, aoo_0, coo_0, Soo_0, (gl ++ [(⟨(Wh.timAt wh.slots k).id, (Wh.timAt wh.slots k).due⟩ : DTimer)]), a26, c27, S28) ?_ (fun w hw => hw.pick (H' := [outer W1 [e0], loopE l_ (recd rc .busy none), own tTimer S28 a26 c27 (gl ++ [(⟨(Wh.timAt wh.slots k).id, (Wh.timAt wh.slots k).due⟩ : DTimer)]), box B18 [.slice a26 (gl ++ [(⟨(Wh.timAt wh.slots k).id, (Wh.timAt wh.slots k).due⟩ : DTimer)]).length c27] 57, box B15_3 [Vi oo.now, .slice aoo_0 oo.slots.length coo_0.n] 50, ownN tTimer Soo_0 aoo_0 coo_0 oo.slots]) [2, 3, 4, 5, 6, 7] (by decide) rfl)
       first | exact Wh.adv_yes hk hI hle | exact Wh.adv_no hk hI (by omega)
      ·simp only [decide_eq_false_iff_not, Int.not_le] at hc22
       have hle := hc22
       refine c_region ?_
       refine o_p (p_load_agg (i := 5) (vs := [Vi oo.now, .slice aoo_0 oo.slots.length coo_0.n]) rfl rfl sh50 rfl rfl) ?_
       refine o_p (p_load_agg (i := 0) (vs := [Vi ((Wh.timAt wh.slots k).id), Vi ((Wh.timAt wh.slots k).due)]) rfl rfl sh52 rfl rfl) ?_
       refine o_pick (H' := [ownN tTimer Soo_0 aoo_0 coo_0 oo.slots, box B21 [Vi ((Wh.timAt wh.slots k).id), Vi ((Wh.timAt wh.slots k).due)] 52, outer W1 [e0], loopE l_ (recd rc .busy none), own tTimer Sgl agl cgl gl, box B18 [.slice agl gl.length cgl] 57, box B15_3 [Vi oo.now, .slice aoo_0 oo.slots.length coo_0.n] 50]) [6, 0, 1, 2, 3, 4, 5] (by decide) rfl ?_
       refine o_callX (pre := [ownN tTimer Soo_0 aoo_0 coo_0 oo.slots]) (R := [box B21 [Vi ((Wh.timAt wh.slots k).id), Vi ((Wh.timAt wh.slots k).due)] 52, outer W1 [e0], loopE l_ (recd rc .busy none), own tTimer Sgl agl cgl gl, box B18 [.slice agl gl.length cgl] 57, box B15_3 [Vi oo.now, .slice aoo_0 oo.slots.length coo_0.n] 50]) rfl (wput_ok oo aoo_0 coo_0 Soo_0 (Wh.timAt wh.slots k) (by first | assumption | exact hfit)) hf70 rfl (fun _ _ => trivial) rfl ?_
       rintro ⟨R29, K30, S31⟩
       refine o_asH (H' := [ownN tTimer S31 aoo_0 (⟨coo_0.n, R29, K30⟩ : NC) ((Wh.put oo (Wh.timAt wh.slots k)).slots), box B21 [Vi ((Wh.timAt wh.slots k).id), Vi ((Wh.timAt wh.slots k).due)] 52, outer W1 [e0], loopE l_ (recd rc .busy none), own tTimer Sgl agl cgl gl, box B18 [.slice agl gl.length cgl] 57, box B15_3 [Vi oo.now, .slice aoo_0 oo.slots.length coo_0.n] 50]) rfl ?_
       refine o_cast (F' := [(47, .tuple #[])]) (H := [ownN tTimer S31 aoo_0 (⟨coo_0.n, R29, K30⟩ : NC) ((Wh.put oo (Wh.timAt wh.slots k)).slots), box B21 [Vi ((Wh.timAt wh.slots k).id), Vi ((Wh.timAt wh.slots k).due)] 52, outer W1 [e0], loopE l_ (recd rc .busy none), own tTimer Sgl agl cgl gl, box B18 [.slice agl gl.length cgl] 57, box B15_3 [Vi oo.now, .slice aoo_0 oo.slots.length coo_0.n] 50]) (H' := [ownN tTimer S31 aoo_0 (⟨coo_0.n, R29, K30⟩ : NC) ((Wh.put oo (Wh.timAt wh.slots k)).slots), box B21 [Vi ((Wh.timAt wh.slots k).id), Vi ((Wh.timAt wh.slots k).due)] 52, outer W1 [e0], loopE l_ (recd rc .busy none), own tTimer Sgl agl cgl gl, box B18 [.slice agl gl.length cgl] 57, box B15_3 [Vi oo.now, .slice aoo_0 ((Wh.put oo (Wh.timAt wh.slots k)).slots).length (⟨coo_0.n, R29, K30⟩ : NC).n] 50]) (sr (Sub.nil _)) (by simp only [List.length_set, List.length_reverse, Wh.put_len, NC.put_n]) ?_
       refine o_nil ?_
       refine q_block_normal ?_
       refine q_next ((⟨oo.now, ((Wh.put oo (Wh.timAt wh.slots k)).slots)⟩ : DWheel), aoo_0, (⟨coo_0.n, R29, K30⟩ : NC), S31, gl, agl, cgl, Sgl) ?_ (fun w hw => hw.pick (H' := [outer W1 [e0], loopE l_ (recd rc .busy none), own tTimer Sgl agl cgl gl, box B18 [.slice agl gl.length cgl] 57, box B15_3 [Vi oo.now, .slice aoo_0 ((Wh.put oo (Wh.timAt wh.slots k)).slots).length (⟨coo_0.n, R29, K30⟩ : NC).n] 50, ownN tTimer S31 aoo_0 (⟨coo_0.n, R29, K30⟩ : NC) ((Wh.put oo (Wh.timAt wh.slots k)).slots)]) [2, 3, 4, 5, 6, 0] (by decide) rfl)
       first | exact Wh.adv_yes hk hI hle | exact Wh.adv_no hk hI (by omega)
     ·rintro D ⟨oo, aoo_0, coo_0, Soo_0, gl, agl, cgl, Sgl⟩ hI
      have hsd := Wh.adv_sd hok hI
      have hgl := Wh.adv_gl hok (Nat.le_refl _) hI
      have hol := Wh.adv_len hok hI
      show SQ _ 52 w0 _ _ _ [defE D, own tTimer Sgl agl cgl gl, box B18 [.slice agl gl.length cgl] 57, box B15_3 [Vi oo.now, .slice aoo_0 oo.slots.length coo_0.n] 50, ownN tTimer Soo_0 aoo_0 coo_0 oo.slots, box B19 [Vi wh.now, .slice awh_0 wh.slots.length cwh_0.n] 50, box B3 [Vi 0, .slice none 0 0] 50, box B2 [Vi to] 3, box B1 [Vi wh.now, .slice awh_0 wh.slots.length cwh_0.n] 50, outer w0 []]
      refine q_block_normal (q_then ?_)
      refine c_seq (c_region ?_)
      refine o_p (p_load (i := 2) (v := .slice agl gl.length cgl) rfl rfl sh57 rfl) ?_
      refine o_pick (H' := [own tTimer Sgl agl cgl gl, defE D, box B18 [.slice agl gl.length cgl] 57, box B15_3 [Vi oo.now, .slice aoo_0 oo.slots.length coo_0.n] 50, ownN tTimer Soo_0 aoo_0 coo_0 oo.slots, box B19 [Vi wh.now, .slice awh_0 wh.slots.length cwh_0.n] 50, box B3 [Vi 0, .slice none 0 0] 50, box B2 [Vi to] 3, box B1 [Vi wh.now, .slice awh_0 wh.slots.length cwh_0.n] 50, outer w0 []]) [1, 0, 2, 3, 4, 5, 6, 7, 8, 9] (by decide) rfl ?_
      refine o_callX (pre := [own tTimer Sgl agl cgl gl]) (R := [defE D, box B18 [.slice agl gl.length cgl] 57, box B15_3 [Vi oo.now, .slice aoo_0 oo.slots.length coo_0.n] 50, ownN tTimer Soo_0 aoo_0 coo_0 oo.slots, box B19 [Vi wh.now, .slice awh_0 wh.slots.length cwh_0.n] 50, box B3 [Vi 0, .slice none 0 0] 50, box B2 [Vi to] 3, box B1 [Vi wh.now, .slice awh_0 wh.slots.length cwh_0.n] 50, outer w0 []]) rfl (sortT_ok gl agl cgl Sgl (by first | assumption | exact hsd)) hf73 rfl (fun _ _ => trivial) rfl ?_
      rintro ⟨⟩
      refine o_asH (H' := [own tTimer Sgl agl cgl gl, defE D, box B18 [.slice agl gl.length cgl] 57, box B15_3 [Vi oo.now, .slice aoo_0 oo.slots.length coo_0.n] 50, ownN tTimer Soo_0 aoo_0 coo_0 oo.slots, box B19 [Vi wh.now, .slice awh_0 wh.slots.length cwh_0.n] 50, box B3 [Vi 0, .slice none 0 0] 50, box B2 [Vi to] 3, box B1 [Vi wh.now, .slice awh_0 wh.slots.length cwh_0.n] 50, outer w0 []]) rfl ?_
      refine o_nil (q_then (c_seq ?_))
      refine c_cutN (G := Unit) (fun _ => [(4, .pointer (some ⟨B3, 0, none⟩)), (5, .slice agl gl.length cgl), (6, Vi 0)]) (fun _ => [own tTimer Sgl agl cgl gl, defE D, box B18 [.slice agl gl.length cgl] 57, box B15_3 [Vi oo.now, .slice aoo_0 oo.slots.length coo_0.n] 50, ownN tTimer Soo_0 aoo_0 coo_0 oo.slots, box B19 [Vi wh.now, .slice awh_0 wh.slots.length cwh_0.n] 50, box B3 [Vi oo.now, .slice aoo_0 oo.slots.length coo_0.n] 50, box B2 [Vi to] 3, box B1 [Vi wh.now, .slice awh_0 wh.slots.length cwh_0.n] 50, outer w0 []]) (fun K hK33 => ?_) ?_
      ·refine c_held hmix [own tTimer Sgl agl cgl gl, defE D, box B18 [.slice agl gl.length cgl] 57, box B15_3 [Vi oo.now, .slice aoo_0 oo.slots.length coo_0.n] 50, ownN tTimer Soo_0 aoo_0 coo_0 oo.slots, box B19 [Vi wh.now, .slice awh_0 wh.slots.length cwh_0.n] 50, box B2 [Vi to] 3, box B1 [Vi wh.now, .slice awh_0 wh.slots.length cwh_0.n] 50, outer w0 []] rfl rfl ?_
       refine h_tk (i := 0) (ls := #[T1,F0,F0,F0,F0]) rfl (p_load_agg (i := 3) (vs := [Vi oo.now, .slice aoo_0 oo.slots.length coo_0.n]) rfl rfl sh50 rfl rfl) (dp (lj (lj (lj (lj (lj (lj (lz (lj (lj (lj (ln)))))))))))) ?_
       refine h_tk (i := 1) (ls := #[T1,T1,F0,F0,F0]) rfl (p_load (i := 2) (v := .slice agl gl.length cgl) rfl rfl sh57 rfl) (dp (lj (lj (lj (lj (lj (lj (lz (lj (lj (lj (ln)))))))))))) ?_
       refine h_one (i := 2) (ls := #[T1,T1,T1,F0,F0]) (by kernel_rfl) rfl rfl ?_
       refine o_storeN (i := 6) (vs := [Vi oo.now, .slice aoo_0 oo.slots.length coo_0.n]) (cs' := [Vi oo.now, .slice aoo_0 oo.slots.length coo_0.n]) rfl rfl rfl sz50 rfl rfl rfl rfl ?_
       refine o_nil ?_
       refine h_next (dp (lj (lj (lj (lj (lj (lj (lz (lj (lj (lj (ln)))))))))))) ?_
       refine h_tk (i := 3) (ls := #[T1,T1,T1,T1,F0]) rfl (p_assign rfl) (dp (lj (lj (lj (lj (lj (lj (lz (lj (lj (lj (ln)))))))))))) ?_
       refine h_tk (i := 4) (ls := #[T1,T1,T1,T1,T1]) rfl (p_assign rfl) (dp (lj (lj (lj (lj (lj (lj (lz (lj (lj (lj (ln)))))))))))) ?_
       refine h_done (by kernel_rfl) ?_
       refine q_kontN hK33 () (sr (sr (sr (Sub.nil _)))) (pk [0, 1, 2, 3, 4, 5, 6, 7, 8, 9])
      rintro _
      show SQ _ 52 w0 _ _ [(4, .pointer (some ⟨B3, 0, none⟩)), (5, .slice agl gl.length cgl), (6, Vi 0)] [own tTimer Sgl agl cgl gl, defE D, box B18 [.slice agl gl.length cgl] 57, box B15_3 [Vi oo.now, .slice aoo_0 oo.slots.length coo_0.n] 50, ownN tTimer Soo_0 aoo_0 coo_0 oo.slots, box B19 [Vi wh.now, .slice awh_0 wh.slots.length cwh_0.n] 50, box B3 [Vi oo.now, .slice aoo_0 oo.slots.length coo_0.n] 50, box B2 [Vi to] 3, box B1 [Vi wh.now, .slice awh_0 wh.slots.length cwh_0.n] 50, outer w0 []]
      refine q_then (c_ret ?_)
      refine q_marks (i := 1) rfl ?_
      show SQ _ 52 w0 _ _ _ [own tTimer Sgl agl cgl gl, box B18 [.slice agl gl.length cgl] 57, box B15_3 [Vi oo.now, .slice aoo_0 oo.slots.length coo_0.n] 50, ownN tTimer Soo_0 aoo_0 coo_0 oo.slots, box B19 [Vi wh.now, .slice awh_0 wh.slots.length cwh_0.n] 50, box B3 [Vi oo.now, .slice aoo_0 oo.slots.length coo_0.n] 50, box B2 [Vi to] 3, box B1 [Vi wh.now, .slice awh_0 wh.slots.length cwh_0.n] 50, outer w0 []]
      refine q_marks0 ?_
      obtain ⟨c1, c2, c3⟩ : _ ∧ _ ∧ _ := by first | exact Wh.av1 (w := wh) (to := to) hch | exact Wh.av2 (w := wh) (to := to) hch hot | exact Wh.av3 (w := wh) (to := to) hch hot (by omega) | exact Wh.av4 hok hot (by omega) hI
      have hr0 : (oo.now : Int) = (Wh.adv wh to).now := by
       first | (rw [c1]; done) | (rw [c1]; rfl) | (rw [c2]; done) | exact c2 | exact c2.symm | exact c3.symm
      have hr1 : (oo.slots : List (List DTimer)) = (Wh.adv wh to).slots := by
       first | (rw [c1]; done) | (rw [c1]; rfl) | (rw [c2]; done) | exact c2 | exact c2.symm | exact c3.symm
      have hr2 : (gl : List DTimer) = (Wh.gone wh to) := by
       first | (rw [c1]; done) | (rw [c1]; rfl) | (rw [c2]; done) | exact c2 | exact c2.symm | exact c3.symm
      have hr3 : (0 : Int) = (Wh.advErr wh to) := by
       first | (rw [c1]; done) | (rw [c1]; rfl) | (rw [c2]; done) | exact c2 | exact c2.symm | exact c3.symm
      refine q_endX (p := (aoo_0, coo_0, Soo_0, agl, cgl, Sgl)) (rt3 rfl (r_cell (i := 5) rfl rfl sh50 rfl) (r_tmp rfl) (r_tmp rfl)) ?_ (fun w hw => ?_)
      ·exact (by have hcc := congr (congr (congr (congrArg (fun (y0 : Int) (y1 : List (List DTimer)) (y2 : List DTimer) (y3 : Int) => (.tuple #[.agg #[.int .i64 y0, .slice aoo_0 y1.length coo_0.n], .slice agl y2.length cgl, .int .i64 y3] : Value)) hr0) hr1) hr2) hr3; exact hcc)
      ·have h2 := hw.pick (H' := [outer w0 [], ownN tTimer Soo_0 aoo_0 coo_0 oo.slots, own tTimer Sgl agl cgl gl]) [8, 3, 0] (by decide) rfl
       exact Eq.mp (congrArg (fun z => HeapIs w0 ((outer w0 []) :: z) w) ((by have hcc := congr (congr (congr (congrArg (fun (y0 : Int) (y1 : List (List DTimer)) (y2 : List DTimer) (y3 : Int) => ([ownN tTimer Soo_0 aoo_0 coo_0 y1, own tTimer Sgl agl cgl y2] : List Ent)) hr0) hr1) hr2) hr3; exact hcc))) h2
     ·intro D c s h; exact h.elim
end Go.Proofs.Ytnmbkopnopaigaa

/- The walks, printed by a program from the translation and a specification. -/
namespace Go.Proofs.Ytnmbkopnopaigaa
open Go.Sx Go.RowKit
set_option maxHeartbeats 8000000 in
set_option maxRecDepth 100000 in
theorem insert_Entry_ok (l : List DEntry) (al : Option Addr) (cl : Nat) (Sl : Nat → Prop) (i : Int) (v : List DEntry) (av : Option Addr) (cv : Nat) (Sv : Nat → Prop) (hy1 : 0 ≤ i ∧ i ≤ (l.length : Int) ∧ l.length ≤ 1000000 ∧ v.length = 1) : FnX Try.prog 89 [.slice al l.length cl, Vi i, .slice av v.length cv] [own tEntry Sl al cl l, own tEntry Sv av cv v] (fun _ => True) (Option Addr × Nat × (Nat → Prop)) (fun p => .slice p.1 (l.take i.toNat ++ v ++ l.drop i.toNat).length p.2.1) (fun p => [own tEntry p.2.2 p.1 p.2.1 (l.take i.toNat ++ v ++ l.drop i.toNat)]) := by
 refine fnX (nt := 95) (F0 := [(0, .slice al l.length cl), (1, Vi i), (2, .slice av v.length cv)]) Try.func89 rfl Try.ntmps89 rfl rfl (fun w0 hpre => ?_)
 refine c_know (fun w hw => own_len (i := 1) (T := tEntry) hw rfl) (fun hlown_l => ?_)
 obtain ⟨hcown_l, hlown_l⟩ := hlown_l
 refine c_know (fun w hw => own_len (i := 2) (T := tEntry) hw rfl) (fun hlown_v => ?_)
 obtain ⟨hcown_v, hlown_v⟩ := hlown_v
 refine c_seq (c_region ?_)
 refine o_as rfl rfl ?_
 refine o_nil (q_then (c_seq (c_region ?_)))
 refine o_mv rfl rfl ?_
 refine o_mv rfl rfl ?_
 refine o_p (p_sliceL (L := l) (T := tEntry) (l := i) rfl rfl Try.underlying84 sz139 (by first | omega | (simp only [List.length_append, List.length_take, List.length_replicate, List.length_drop, List.length_set]; omega)) (by first | omega | (simp only [List.length_append, List.length_take, List.length_replicate, List.length_drop, List.length_set]; omega)) (rd_own (i := 1) rfl)) ?_
 refine o_nil (q_then (c_seq (c_region ?_)))
 refine o_mv rfl rfl ?_
 refine o_p (p_len_slice rfl rfl Try.underlying84) ?_
 refine o_as rfl rfl ?_
 refine o_nil (q_then (c_seq (c_seq (c_region ?_))))
 refine o_mv rfl rfl ?_
 refine o_p (p_eq rfl rfl) ?_
 refine o_nil (q_then ?_)
 refine c_cond rfl (fun hc1 => ?_) (fun hc1 => ?_)
 ·simp only [beq_iff_eq] at hc1
  exfalso; omega
 ·simp only [beq_eq_false_iff_ne, ne_eq] at hc1
  refine c_skip (q_then (c_seq (c_region ?_)))
  refine o_mv rfl rfl ?_
  refine o_p (p_len_slice rfl rfl Try.underlying84) ?_
  refine o_as rfl rfl ?_
  refine o_nil (q_then (c_seq (c_seq (c_region ?_))))
  refine o_mv rfl rfl ?_
  refine o_mv rfl rfl ?_
  refine o_p (p_eq rfl rfl) ?_
  refine o_nil (q_then ?_)
  refine c_cond rfl (fun hc2 => ?_) (fun hc2 => ?_)
  ·simp only [beq_iff_eq] at hc2
   refine c_seq (c_region ?_)
   refine o_mv rfl rfl ?_
   refine o_mv rfl rfl ?_
   refine o_append (i := 1) (L := l) (M := v) (T := tEntry) rfl rfl rfl (rd_own (i := 2) rfl) Try.underlying84 Try.underlying84 (by intro k h; cases h) el139 (by intro z; simp [tEntry, one1]) (by decide) (by first | omega | (simp only [List.length_cons, List.length_nil]; omega) | (simp only [List.length_append, List.length_cons, List.length_nil, List.length_take, List.length_drop]; omega)) rfl (fun a3 c4 S5 => ?_)
   refine o_as rfl rfl ?_
   refine o_nil (q_then (c_ret ?_))
   refine q_then_ret ?_
   have hr0 : ((l ++ v) : List DEntry) = (l.take i.toNat ++ v ++ l.drop i.toNat) := by
    first | rfl | (obtain rfl : i = (l.length : Int) := (by assumption); simp)
   refine q_endX (p := (a3, c4, S5)) (rt1 rfl (r_tmp rfl)) ?_ (fun w hw => ?_)
   ·exact (by have hcc := congrArg (fun (y0 : List DEntry) => (.slice a3 y0.length c4 : Value)) hr0; exact hcc)
   ·have h2 := hw.pick (H' := [outer w0 [own tEntry Sl al cl l, own tEntry Sv av cv v], own tEntry S5 a3 c4 (l ++ v)]) [0, 1] (by decide) rfl
    exact Eq.mp (congrArg (fun z => HeapIs w0 ((outer w0 [own tEntry Sl al cl l, own tEntry Sv av cv v]) :: z) w) ((by have hcc := congrArg (fun (y0 : List DEntry) => ([own tEntry S5 a3 c4 y0] : List Ent)) hr0; exact hcc))) h2
  ·simp only [beq_eq_false_iff_ne, ne_eq] at hc2
   refine c_skip (q_then (c_seq (c_seq (c_region ?_))))
   refine o_mv rfl rfl ?_
   refine o_mv rfl rfl ?_
   refine o_p (p_addb rfl rfl (by omega)) ?_
   refine o_mv rfl rfl ?_
   refine o_p (p_cap_slice rfl rfl Try.underlying84) ?_
   refine o_p (p_gt rfl rfl) ?_
   refine o_nil (q_then ?_)
   refine c_cond rfl (fun hc6 => ?_) (fun hc6 => ?_)
   ·simp only [decide_eq_true_eq] at hc6
    refine c_seq (c_region ?_)
    refine o_mv rfl rfl ?_
    refine o_mv rfl rfl ?_
    refine o_p (p_sliceH (L := l) (T := tEntry) (h := i) rfl rfl Try.underlying84 sz139 (by first | omega | (simp only [List.length_append, List.length_take, List.length_replicate, List.length_drop, List.length_set]; omega)) (by first | omega | (simp only [List.length_append, List.length_take, List.length_replicate, List.length_drop, List.length_set]; omega)) (rd_own (i := 1) rfl)) ?_
    refine o_mv rfl rfl ?_
    refine o_mv rfl rfl ?_
    refine o_p (p_addb rfl rfl (by omega)) ?_
    refine o_mv rfl rfl ?_
    refine o_p (p_subb rfl rfl (by omega)) ?_
    refine o_appendZ (i := 1) (m := i.toNat) (k := (l.length + v.length - i.toNat)) (L := l) (T := tEntry) (z := (⟨0, 0, 0⟩ : DEntry)) rfl rfl rfl (by omega) Try.underlying84 Try.underlying3 el139 ze139 rfl (by decide) (by omega) rfl (fun a7 c8 S9 => ?_)
    refine o_know (fun w hw => own_len (i := 0) (T := tEntry) hw rfl) (fun hlz11 => ?_)
    have hlz11b : ((l.take i.toNat) ++ (List.replicate (l.length + v.length - i.toNat) (⟨0, 0, 0⟩ : DEntry))).length = l.length + v.length := by simp only [List.length_append, List.length_take, List.length_replicate, List.length_drop, List.length_set]; omega
    refine o_as rfl rfl ?_
    refine o_nil (q_then (c_seq (c_region ?_)))
    refine o_mv rfl rfl ?_
    refine o_mv rfl rfl ?_
    refine o_p (p_sliceL (L := ((l.take i.toNat) ++ (List.replicate (l.length + v.length - i.toNat) (⟨0, 0, 0⟩ : DEntry)))) (T := tEntry) (l := i) rfl rfl Try.underlying84 sz139 (by first | omega | (simp only [List.length_append, List.length_take, List.length_replicate, List.length_drop, List.length_set]; omega)) (by first | omega | (simp only [List.length_append, List.length_take, List.length_replicate, List.length_drop, List.length_set]; omega)) (rd_own (i := 0) rfl)) ?_
    refine o_mv rfl rfl ?_
    refine o_copy (i := 0) (lo := i.toNat) (M := v) (T := tEntry) (L := ((l.take i.toNat) ++ (List.replicate (l.length + v.length - i.toNat) (⟨0, 0, 0⟩ : DEntry)))) (m := 1) (F' := [(0, .slice al l.length cl), (1, Vi i), (7, Vi (v.length : Int)), (9, .slice a7 (l.take i.toNat ++ v ++ List.replicate (l.length - i.toNat) (⟨0, 0, 0⟩ : DEntry)).length c8)]) rfl rfl rfl (rd_own (i := 3) rfl) (by (try simp only [List.length_append, List.length_take, List.length_replicate, List.length_drop, List.length_set]); omega) Try.underlying84 sz139 (by intro z; simp [tEntry, one1]) (by (try simp only [List.length_append, List.length_take, List.length_replicate, List.length_drop, List.length_set]); omega) rfl (by omega) (sr (sr (sr (Sub.cons (by show some _ = some _; congr 2; first | (simp; omega) | simp) (Sub.nil _))))) ?_
    refine o_asH (H := [own tEntry S9 a7 c8 (((l.take i.toNat) ++ (List.replicate (l.length + v.length - i.toNat) (⟨0, 0, 0⟩ : DEntry))).take i.toNat ++ v ++ ((l.take i.toNat) ++ (List.replicate (l.length + v.length - i.toNat) (⟨0, 0, 0⟩ : DEntry))).drop (i.toNat + v.length)), outer w0 [own tEntry Sl al cl l, own tEntry Sv av cv v], own tEntry Sl al cl l, own tEntry Sv av cv v]) (H' := [own tEntry S9 a7 c8 (l.take i.toNat ++ v ++ List.replicate (l.length - i.toNat) (⟨0, 0, 0⟩ : DEntry)), outer w0 [own tEntry Sl al cl l, own tEntry Sv av cv v], own tEntry Sl al cl l, own tEntry Sv av cv v]) (by have hins : ((((l.take i.toNat) ++ (List.replicate (l.length + v.length - i.toNat) (⟨0, 0, 0⟩ : DEntry))).take i.toNat ++ v ++ ((l.take i.toNat) ++ (List.replicate (l.length + v.length - i.toNat) (⟨0, 0, 0⟩ : DEntry))).drop (i.toNat + v.length)) : List DEntry) = (l.take i.toNat ++ v ++ List.replicate (l.length - i.toNat) (⟨0, 0, 0⟩ : DEntry)) := (by exact ins_a (by omega) (by omega)); rw [hins]) ?_
    refine o_nil (q_then (c_seq ?_))
    refine c_held hmix [ownE tEntry S9 a7 c8 ((l.take i.toNat ++ v ++ List.replicate (l.length - i.toNat) (⟨0, 0, 0⟩ : DEntry)).length), outer w0 [own tEntry Sl al cl l, own tEntry Sv av cv v], own tEntry Sl al cl l, own tEntry Sv av cv v] rfl rfl ?_
    refine h_tk (i := 0) (ls := #[T1,F0,F0,F0,F0,F0,F0,F0,F0]) rfl (p_move rfl) (fun _ hw => HeapIs.drop (HeapIs.toE (i := 0) (m := (l.take i.toNat ++ v ++ List.replicate (l.length - i.toNat) (⟨0, 0, 0⟩ : DEntry)).length) (T := tEntry) rfl (by first | rfl | (simp; done) | (simp; omega)) hw) (lr)) ?_
    refine h_tk (i := 1) (ls := #[T1,T1,F0,F0,F0,F0,F0,F0,F0]) rfl (p_move rfl) (fun _ hw => HeapIs.drop (HeapIs.toE (i := 0) (m := (l.take i.toNat ++ v ++ List.replicate (l.length - i.toNat) (⟨0, 0, 0⟩ : DEntry)).length) (T := tEntry) rfl (by first | rfl | (simp; done) | (simp; omega)) hw) (lr)) ?_
    refine h_tk (i := 2) (ls := #[T1,T1,T1,F0,F0,F0,F0,F0,F0]) rfl (p_move rfl) (fun _ hw => HeapIs.drop (HeapIs.toE (i := 0) (m := (l.take i.toNat ++ v ++ List.replicate (l.length - i.toNat) (⟨0, 0, 0⟩ : DEntry)).length) (T := tEntry) rfl (by first | rfl | (simp; done) | (simp; omega)) hw) (lr)) ?_
    refine h_tk (i := 3) (ls := #[T1,T1,T1,T1,F0,F0,F0,F0,F0]) rfl (p_addb rfl rfl (by omega)) (fun _ hw => HeapIs.drop (HeapIs.toE (i := 0) (m := (l.take i.toNat ++ v ++ List.replicate (l.length - i.toNat) (⟨0, 0, 0⟩ : DEntry)).length) (T := tEntry) rfl (by first | rfl | (simp; done) | (simp; omega)) hw) (lr)) ?_
    refine h_tk (i := 4) (ls := #[T1,T1,T1,T1,T1,F0,F0,F0,F0]) rfl (p_sliceLE (j := 0) (m := (l.take i.toNat ++ v ++ List.replicate (l.length - i.toNat) (⟨0, 0, 0⟩ : DEntry)).length) (T := tEntry) (l := (i + (v.length : Int))) rfl rfl rfl Try.underlying84 sz139 (by omega) (by first | omega | (simp; omega))) (fun _ hw => HeapIs.drop (HeapIs.toE (i := 0) (m := (l.take i.toNat ++ v ++ List.replicate (l.length - i.toNat) (⟨0, 0, 0⟩ : DEntry)).length) (T := tEntry) rfl (by first | rfl | (simp; done) | (simp; omega)) hw) (lr)) ?_
    refine h_tk (i := 5) (ls := #[T1,T1,T1,T1,T1,T1,F0,F0,F0]) rfl (p_move rfl) (fun _ hw => HeapIs.drop (HeapIs.toE (i := 0) (m := (l.take i.toNat ++ v ++ List.replicate (l.length - i.toNat) (⟨0, 0, 0⟩ : DEntry)).length) (T := tEntry) rfl (by first | rfl | (simp; done) | (simp; omega)) hw) (lr)) ?_
    refine h_tk (i := 6) (ls := #[T1,T1,T1,T1,T1,T1,T1,F0,F0]) rfl (p_move rfl) (fun _ hw => HeapIs.drop (HeapIs.toE (i := 0) (m := (l.take i.toNat ++ v ++ List.replicate (l.length - i.toNat) (⟨0, 0, 0⟩ : DEntry)).length) (T := tEntry) rfl (by first | rfl | (simp; done) | (simp; omega)) hw) (lr)) ?_
    refine h_tk (i := 7) (ls := #[T1,T1,T1,T1,T1,T1,T1,T1,F0]) rfl (p_sliceL (L := l) (T := tEntry) (l := i) rfl rfl Try.underlying84 sz139 (by first | omega | (simp only [List.length_append, List.length_take, List.length_replicate, List.length_drop, List.length_set]; omega)) (by first | omega | (simp only [List.length_append, List.length_take, List.length_replicate, List.length_drop, List.length_set]; omega)) (rd_own (i := 2) rfl)) (fun _ hw => HeapIs.drop (HeapIs.toE (i := 0) (m := (l.take i.toNat ++ v ++ List.replicate (l.length - i.toNat) (⟨0, 0, 0⟩ : DEntry)).length) (T := tEntry) rfl (by first | rfl | (simp; done) | (simp; omega)) hw) (lr)) ?_
    refine h_one (i := 8) (ls := #[T1,T1,T1,T1,T1,T1,T1,T1,T1]) (by kernel_rfl) rfl rfl ?_
    refine o_copy (i := 0) (lo := (i + (v.length : Int)).toNat) (M := (l.drop i.toNat)) (T := tEntry) (L := (l.take i.toNat ++ v ++ List.replicate (l.length - i.toNat) (⟨0, 0, 0⟩ : DEntry))) (m := (l.length - i.toNat)) (F' := [(0, .slice al l.length cl), (1, Vi i), (7, Vi (v.length : Int)), (9, .slice a7 (l.take i.toNat ++ v ++ l.drop i.toNat).length c8)]) rfl rfl rfl (rd_dropC (l := i.toNat) (rd_own (i := 2) rfl) (by first | omega | (simp only [List.length_append, List.length_take, List.length_replicate, List.length_drop, List.length_set]; omega))) (by (try simp only [List.length_append, List.length_take, List.length_replicate, List.length_drop, List.length_set]); omega) Try.underlying84 sz139 (by intro z; simp [tEntry, one1]) (by (try simp only [List.length_append, List.length_take, List.length_replicate, List.length_drop, List.length_set]); omega) rfl (by simp) (sr (sr (sr (Sub.cons (by show some _ = some _; congr 2; first | (simp; omega) | simp) (Sub.nil _))))) ?_
    refine o_asH (H := [own tEntry S9 a7 c8 ((l.take i.toNat ++ v ++ List.replicate (l.length - i.toNat) (⟨0, 0, 0⟩ : DEntry)).take ((i + (v.length : Int)).toNat) ++ (l.drop i.toNat) ++ (l.take i.toNat ++ v ++ List.replicate (l.length - i.toNat) (⟨0, 0, 0⟩ : DEntry)).drop (((i + (v.length : Int)).toNat) + (l.drop i.toNat).length)), outer w0 [own tEntry Sl al cl l, own tEntry Sv av cv v], own tEntry Sl al cl l, own tEntry Sv av cv v]) (H' := [own tEntry S9 a7 c8 (l.take i.toNat ++ v ++ l.drop i.toNat), outer w0 [own tEntry Sl al cl l, own tEntry Sv av cv v], own tEntry Sl al cl l, own tEntry Sv av cv v]) (by have hins : (((l.take i.toNat ++ v ++ List.replicate (l.length - i.toNat) (⟨0, 0, 0⟩ : DEntry)).take ((i + (v.length : Int)).toNat) ++ (l.drop i.toNat) ++ (l.take i.toNat ++ v ++ List.replicate (l.length - i.toNat) (⟨0, 0, 0⟩ : DEntry)).drop (((i + (v.length : Int)).toNat) + (l.drop i.toNat).length)) : List DEntry) = (l.take i.toNat ++ v ++ l.drop i.toNat) := (by exact ins_b (by omega) (by omega) (by omega)); rw [hins]) ?_
    refine o_nil ?_
    refine h_next (fun _ hw => HeapIs.drop (HeapIs.toE (i := 0) (m := (l.take i.toNat ++ v ++ List.replicate (l.length - i.toNat) (⟨0, 0, 0⟩ : DEntry)).length) (T := tEntry) rfl (by first | rfl | (simp; done) | (simp; omega)) hw) (lr)) ?_
    refine h_done (by kernel_rfl) ?_
    refine q_cast (F' := [(9, .slice a7 (l.take i.toNat ++ v ++ l.drop i.toNat).length c8)]) (H := [own tEntry S9 a7 c8 (l.take i.toNat ++ v ++ l.drop i.toNat), outer w0 [own tEntry Sl al cl l, own tEntry Sv av cv v], own tEntry Sl al cl l, own tEntry Sv av cv v]) (H' := [own tEntry S9 a7 c8 (l.take i.toNat ++ v ++ l.drop i.toNat), outer w0 [own tEntry Sl al cl l, own tEntry Sv av cv v], own tEntry Sl al cl l, own tEntry Sv av cv v]) (sr (Sub.nil _)) (by rfl) ?_
    refine q_then (c_seq (c_region ?_))
    refine o_mv rfl rfl ?_
    refine o_as rfl rfl ?_
    refine o_nil (q_then (c_ret ?_))
    refine q_then_ret ?_
    refine q_endX (p := (a7, c8, S9)) (rt1 rfl (r_tmp rfl)) ?_ (fun w hw => ?_)
    ·exact rfl
    ·have h2 := hw.pick (H' := [outer w0 [own tEntry Sl al cl l, own tEntry Sv av cv v], own tEntry S9 a7 c8 (l.take i.toNat ++ v ++ l.drop i.toNat)]) [1, 0] (by decide) rfl
     exact Eq.mp (congrArg (fun z => HeapIs w0 ((outer w0 [own tEntry Sl al cl l, own tEntry Sv av cv v]) :: z) w) (rfl)) h2
   ·simp only [decide_eq_false_iff_not, Int.not_lt] at hc6
    refine c_skip (q_then (c_seq (c_region ?_)))
    refine o_mv rfl rfl ?_
    refine o_mv rfl rfl ?_
    refine o_mv rfl rfl ?_
    refine o_p (p_addb rfl rfl (by omega)) ?_
    refine o_p (p_slice0 (hi := (l.length + v.length)) (hv := ((l.length : Int) + (v.length : Int))) rfl rfl Try.underlying84 sz139 (by omega) (by omega)) ?_
    refine o_as rfl rfl ?_
    refine o_nil (q_then (c_seq (c_seq (c_region ?_))))
    refine o_mv rfl rfl ?_
    refine o_mv rfl rfl ?_
    refine o_mv rfl rfl ?_
    refine o_mv rfl rfl ?_
    refine o_p (p_addb rfl rfl (by omega)) ?_
    refine o_p (p_slice (l := (i.toNat + 1)) (hi := (l.length + v.length)) (m := cl) (lv := some (Vi (i + (v.length : Int)))) (hv := none) (mv := none) rfl rfl rfl rfl Try.underlying84 sz139 (.inr ⟨.i64, by congr 1; congr 1; omega⟩) (.inl ⟨rfl, rfl⟩) (.inl ⟨rfl, rfl⟩) (fun _ => rfl) (by omega) (by omega) (Nat.le_refl _) rfl) ?_
    refine o_p (p_overlaps (tS := 84) (tR := 4) (i := 1) (j := 2) (lo := (i.toNat + 1)) (M := v) Try.func133 (by kernel_rfl) (by kernel_rfl) (by kernel_rfl) (by kernel_rfl) rfl rfl rfl rfl (by decide) Try.underlying84 sz139 (by omega) (by omega) (by decide)) ?_
    refine o_p (p_not (b := false) rfl) ?_
    refine o_nil (q_then ?_)
    refine c_true rfl ?_
    refine c_seq ?_
    refine c_held hmix [outer w0 [own tEntry Sl al cl l, own tEntry Sv av cv v], own tEntry Sv av cv v] rfl rfl ?_
    refine h_tk (i := 0) (ls := #[T1,F0,F0,F0,F0,F0,F0,F0,F0]) rfl (p_move rfl) (dp (lj (lz (lj (ln))))) ?_
    refine h_tk (i := 1) (ls := #[T1,T1,F0,F0,F0,F0,F0,F0,F0]) rfl (p_move rfl) (dp (lj (lz (lj (ln))))) ?_
    refine h_tk (i := 2) (ls := #[T1,T1,T1,F0,F0,F0,F0,F0,F0]) rfl (p_move rfl) (dp (lj (lz (lj (ln))))) ?_
    refine h_tk (i := 3) (ls := #[T1,T1,T1,T1,F0,F0,F0,F0,F0]) rfl (p_addb rfl rfl (by omega)) (dp (lj (lz (lj (ln))))) ?_
    refine h_tk (i := 4) (ls := #[T1,T1,T1,T1,T1,F0,F0,F0,F0]) rfl (p_slice (l := (i.toNat + 1)) (hi := (l.length + v.length)) (m := cl) (lv := some (Vi (i + (v.length : Int)))) (hv := none) (mv := none) rfl rfl rfl rfl Try.underlying84 sz139 (.inr ⟨.i64, by congr 1; congr 1; omega⟩) (.inl ⟨rfl, rfl⟩) (.inl ⟨rfl, rfl⟩) (fun _ => rfl) (by omega) (by omega) (Nat.le_refl _) rfl) (dp (lj (lz (lj (ln))))) ?_
    refine h_tk (i := 5) (ls := #[T1,T1,T1,T1,T1,T1,F0,F0,F0]) rfl (p_move rfl) (dp (lj (lz (lj (ln))))) ?_
    refine h_tk (i := 6) (ls := #[T1,T1,T1,T1,T1,T1,T1,F0,F0]) rfl (p_move rfl) (dp (lj (lz (lj (ln))))) ?_
    refine h_tk (i := 7) (ls := #[T1,T1,T1,T1,T1,T1,T1,T1,F0]) rfl (p_slice (l := i.toNat) (hi := (l.length + v.length)) (m := cl) (lv := some (Vi i)) (hv := none) (mv := none) rfl rfl rfl rfl Try.underlying84 sz139 (.inr ⟨.i64, by congr 1; congr 1; omega⟩) (.inl ⟨rfl, rfl⟩) (.inl ⟨rfl, rfl⟩) (fun _ => rfl) (by omega) (by omega) (Nat.le_refl _) rfl) (dp (lj (lz (lj (ln))))) ?_
    refine h_one (i := 8) (ls := #[T1,T1,T1,T1,T1,T1,T1,T1,T1]) (by kernel_rfl) rfl rfl ?_
    refine o_copy (i := 1) (lo := (i.toNat + 1)) (M := (l.drop i.toNat)) (T := tEntry) (L := l) (m := (l.length - i.toNat)) (F' := [(0, .slice al (l.take (i.toNat + 1) ++ l.drop i.toNat).length cl), (1, Vi i), (2, .slice av v.length cv), (7, Vi (v.length : Int)), (8, Vi (l.length : Int)), (68, .bool true)]) rfl rfl rfl (rd_dropC (l := i.toNat) (rd_own (i := 1) rfl) (by omega)) (by (try simp only [List.length_append, List.length_take, List.length_replicate, List.length_drop, List.length_set]); omega) Try.underlying84 sz139 (by intro z; simp [tEntry, one1]) (by (try simp only [List.length_append, List.length_take, List.length_replicate, List.length_drop, List.length_set]); omega) rfl (by simp) (Sub.cons (by show some _ = some _; congr 2; first | (simp; omega) | simp) (sr (sr (sr (sr (sr (Sub.nil _))))))) ?_
    refine o_asH (H := [outer w0 [own tEntry Sl al cl l, own tEntry Sv av cv v], own tEntry Sl al cl (l.take (i.toNat + 1) ++ (l.drop i.toNat) ++ l.drop ((i.toNat + 1) + (l.drop i.toNat).length)), own tEntry Sv av cv v]) (H' := [outer w0 [own tEntry Sl al cl l, own tEntry Sv av cv v], own tEntry Sl al cl (l.take (i.toNat + 1) ++ l.drop i.toNat), own tEntry Sv av cv v]) (by have hins : ((l.take (i.toNat + 1) ++ (l.drop i.toNat) ++ l.drop ((i.toNat + 1) + (l.drop i.toNat).length)) : List DEntry) = (l.take (i.toNat + 1) ++ l.drop i.toNat) := (by exact ins_c (by omega) (by omega)); rw [hins]) ?_
    refine o_nil ?_
    refine h_next (dp (lj (lz (lj (ln))))) ?_
    refine h_done (by kernel_rfl) ?_
    refine q_cast (F' := [(0, .slice al (l.take (i.toNat + 1) ++ l.drop i.toNat).length cl), (1, Vi i), (2, .slice av v.length cv)]) (H := [outer w0 [own tEntry Sl al cl l, own tEntry Sv av cv v], own tEntry Sl al cl (l.take (i.toNat + 1) ++ l.drop i.toNat), own tEntry Sv av cv v]) (H' := [outer w0 [own tEntry Sl al cl l, own tEntry Sv av cv v], own tEntry Sl al cl (l.take (i.toNat + 1) ++ l.drop i.toNat), own tEntry Sv av cv v]) (sr (sr (sr (Sub.nil _)))) (by rfl) ?_
    refine q_then (c_seq (c_region ?_))
    refine o_mv rfl rfl ?_
    refine o_mv rfl rfl ?_
    refine o_p (p_sliceL (L := (l.take (i.toNat + 1) ++ l.drop i.toNat)) (T := tEntry) (l := i) rfl rfl Try.underlying84 sz139 (by first | omega | (simp only [List.length_append, List.length_take, List.length_replicate, List.length_drop, List.length_set]; omega)) (by first | omega | (simp only [List.length_append, List.length_take, List.length_replicate, List.length_drop, List.length_set]; omega)) (rd_own (i := 1) rfl)) ?_
    refine o_mv rfl rfl ?_
    refine o_copy (i := 1) (lo := i.toNat) (M := v) (T := tEntry) (L := (l.take (i.toNat + 1) ++ l.drop i.toNat)) (m := 1) (F' := [(0, .slice al (l.take i.toNat ++ v ++ l.drop i.toNat).length cl)]) rfl rfl rfl (rd_own (i := 2) rfl) (by (try simp only [List.length_append, List.length_take, List.length_replicate, List.length_drop, List.length_set]); omega) Try.underlying84 sz139 (by intro z; simp [tEntry, one1]) (by (try simp only [List.length_append, List.length_take, List.length_replicate, List.length_drop, List.length_set]); omega) rfl (by omega) (Sub.cons (by show some _ = some _; congr 2; first | (simp; omega) | simp) (Sub.nil _)) ?_
    refine o_asH (H := [outer w0 [own tEntry Sl al cl l, own tEntry Sv av cv v], own tEntry Sl al cl ((l.take (i.toNat + 1) ++ l.drop i.toNat).take i.toNat ++ v ++ (l.take (i.toNat + 1) ++ l.drop i.toNat).drop (i.toNat + v.length)), own tEntry Sv av cv v]) (H' := [outer w0 [own tEntry Sl al cl l, own tEntry Sv av cv v], own tEntry Sl al cl (l.take i.toNat ++ v ++ l.drop i.toNat), own tEntry Sv av cv v]) (by have hins : (((l.take (i.toNat + 1) ++ l.drop i.toNat).take i.toNat ++ v ++ (l.take (i.toNat + 1) ++ l.drop i.toNat).drop (i.toNat + v.length)) : List DEntry) = (l.take i.toNat ++ v ++ l.drop i.toNat) := (by exact ins_d (by omega) (by omega)); rw [hins]) ?_
    refine o_nil (q_then (c_seq (c_region ?_)))
    refine o_mv rfl rfl ?_
    refine o_as rfl rfl ?_
    refine o_nil (q_then (c_ret ?_))
    refine q_then_ret ?_
    refine q_endX (p := (al, cl, Sl)) (rt1 rfl (r_tmp rfl)) ?_ (fun w hw => ?_)
    ·exact rfl
    ·have h2 := hw.pick (H' := [outer w0 [own tEntry Sl al cl l, own tEntry Sv av cv v], own tEntry Sl al cl (l.take i.toNat ++ v ++ l.drop i.toNat)]) [0, 1] (by decide) rfl
     exact Eq.mp (congrArg (fun z => HeapIs w0 ((outer w0 [own tEntry Sl al cl l, own tEntry Sv av cv v]) :: z) w) (rfl)) h2

set_option maxHeartbeats 8000000 in
set_option maxRecDepth 100000 in
theorem key_ok (n : Int) : Fn0 Try.prog 123 [Vi n] (fun _ => True) (.bool (Lru.okKey n)) := by
 refine fn0 (nt := 9) (F0 := [(0, Vi n)]) Try.func123 rfl Try.ntmps123 rfl rfl (fun w0 hpre => ?_)
 refine c_seq (c_region ?_)
 refine o_as rfl rfl ?_
 refine o_nil (q_then (c_seq (c_region ?_)))
 refine o_mv rfl rfl ?_
 refine o_p (p_ge rfl rfl) ?_
 refine o_mv rfl rfl ?_
 refine o_and (p := 8) 3 (decide (n ≤ 1048576)) ?_ ?_ ?_
 ·intro hb1 hk
  simp only [decide_eq_true_eq] at hb1
  refine o_unguard 5 rfl rfl ?_
  refine o_mv rfl rfl ?_
  refine o_unguard 5 rfl rfl ?_
  refine o_p (p_le rfl rfl) ?_
  refine o_pt rfl rfl rfl ?_
  exact o_sub (sr (Sub.skip rfl (Sub.skip rfl (Sub.skip rfl (Sub.skip rfl (Sub.refl _)))))) hk
 ·intro hb1 hk
  refine o_guard_no rfl 5 rfl rfl rfl rfl rfl ?_
  refine o_guard_no rfl 5 rfl rfl rfl rfl rfl ?_
  refine o_pf rfl rfl rfl ?_
  exact o_sub (sr (Sub.skip rfl (Sub.skip rfl (Sub.skip rfl (Sub.skip rfl (Sub.refl _)))))) hk
 refine o_as rfl rfl ?_
 refine o_nil (q_then (c_ret ?_))
 have hr0 : ((decide (0 ≤ n) && decide (n ≤ 1048576)) : Bool) = (Lru.okKey n) := by
  rfl
 refine q_end0 (v := .bool (decide (0 ≤ n) && decide (n ≤ 1048576))) (rt1 rfl (r_tmp rfl)) (i := 0) rfl ?_
 exact (by have hcc := congrArg (fun (y0 : Bool) => (.bool y0 : Value)) hr0; exact hcc)

set_option maxHeartbeats 8000000 in
set_option maxRecDepth 100000 in
theorem etick_ok (n : Int) : Fn0 Try.prog 130 [Vi n] (fun _ => True) (.bool (Exp.okNow n)) := by
 refine fn0 (nt := 9) (F0 := [(0, Vi n)]) Try.func130 rfl Try.ntmps130 rfl rfl (fun w0 hpre => ?_)
 refine c_seq (c_region ?_)
 refine o_as rfl rfl ?_
 refine o_nil (q_then (c_seq (c_region ?_)))
 refine o_mv rfl rfl ?_
 refine o_p (p_ge rfl rfl) ?_
 refine o_mv rfl rfl ?_
 refine o_and (p := 8) 3 (decide (n ≤ 1099511627776)) ?_ ?_ ?_
 ·intro hb1 hk
  simp only [decide_eq_true_eq] at hb1
  refine o_unguard 5 rfl rfl ?_
  refine o_mv rfl rfl ?_
  refine o_unguard 5 rfl rfl ?_
  refine o_p (p_le rfl rfl) ?_
  refine o_pt rfl rfl rfl ?_
  exact o_sub (sr (Sub.skip rfl (Sub.skip rfl (Sub.skip rfl (Sub.skip rfl (Sub.refl _)))))) hk
 ·intro hb1 hk
  refine o_guard_no rfl 5 rfl rfl rfl rfl rfl ?_
  refine o_guard_no rfl 5 rfl rfl rfl rfl rfl ?_
  refine o_pf rfl rfl rfl ?_
  exact o_sub (sr (Sub.skip rfl (Sub.skip rfl (Sub.skip rfl (Sub.skip rfl (Sub.refl _)))))) hk
 refine o_as rfl rfl ?_
 refine o_nil (q_then (c_ret ?_))
 have hr0 : ((decide (0 ≤ n) && decide (n ≤ 1099511627776)) : Bool) = (Exp.okNow n) := by
  rfl
 refine q_end0 (v := .bool (decide (0 ≤ n) && decide (n ≤ 1099511627776))) (rt1 rfl (r_tmp rfl)) (i := 0) rfl ?_
 exact (by have hcc := congrArg (fun (y0 : Bool) => (.bool y0 : Value)) hr0; exact hcc)

set_option maxHeartbeats 8000000 in
set_option maxRecDepth 100000 in
theorem evalue_ok (n : Int) : Fn0 Try.prog 87 [Vi n] (fun _ => True) (.bool (Exp.okValue n)) := by
 refine fn0 (nt := 9) (F0 := [(0, Vi n)]) Try.func87 rfl Try.ntmps87 rfl rfl (fun w0 hpre => ?_)
 refine c_seq (c_region ?_)
 refine o_as rfl rfl ?_
 refine o_nil (q_then (c_seq (c_region ?_)))
 refine o_mv rfl rfl ?_
 refine o_p (p_ge rfl rfl) ?_
 refine o_mv rfl rfl ?_
 refine o_and (p := 8) 3 (decide (n ≤ 1099511627776)) ?_ ?_ ?_
 ·intro hb1 hk
  simp only [decide_eq_true_eq] at hb1
  refine o_unguard 5 rfl rfl ?_
  refine o_mv rfl rfl ?_
  refine o_unguard 5 rfl rfl ?_
  refine o_p (p_le rfl rfl) ?_
  refine o_pt rfl rfl rfl ?_
  exact o_sub (sr (Sub.skip rfl (Sub.skip rfl (Sub.skip rfl (Sub.skip rfl (Sub.refl _)))))) hk
 ·intro hb1 hk
  refine o_guard_no rfl 5 rfl rfl rfl rfl rfl ?_
  refine o_guard_no rfl 5 rfl rfl rfl rfl rfl ?_
  refine o_pf rfl rfl rfl ?_
  exact o_sub (sr (Sub.skip rfl (Sub.skip rfl (Sub.skip rfl (Sub.skip rfl (Sub.refl _)))))) hk
 refine o_as rfl rfl ?_
 refine o_nil (q_then (c_ret ?_))
 have hr0 : ((decide ((-1099511627776) ≤ n) && decide (n ≤ 1099511627776)) : Bool) = (Exp.okValue n) := by
  rfl
 refine q_end0 (v := .bool (decide ((-1099511627776) ≤ n) && decide (n ≤ 1099511627776))) (rt1 rfl (r_tmp rfl)) (i := 0) rfl ?_
 exact (by have hcc := congrArg (fun (y0 : Bool) => (.bool y0 : Value)) hr0; exact hcc)

set_option maxHeartbeats 8000000 in
set_option maxRecDepth 100000 in
theorem bsearchE_ok (l : List DEntry) (al : Option Addr) (cl : Nat) (target : Int) (gf : FuncId) (kf : List Value) (f : DEntry → Int → Int) (Pf : World → Prop) (stf : ∀ w w', Below w.heap.size w w' → Pf w → Pf w') (okf : ∀ (x : DEntry) (y : Int), Fn0 Try.prog gf (.agg #[Vi x.key, Vi x.value, Vi x.till] :: Vi y :: kf) Pf (Vi (f x y))) (hpf : HasFn Try.prog gf) (hy1 : Split (fun x => f x target) l) : Fn0 Try.prog 131 [.slice al l.length cl, Vi target, .func (.func gf) #[] kf.toArray] (fun w => Rd tEntry w al cl l ∧ Pf w) (.tuple #[Vi (lowF (fun x => f x target) l : Int), .bool (hitF (fun x => f x target) l)]) := by
 refine fn0 (nt := 49) (F0 := [(0, .slice al l.length cl), (1, Vi target), (2, .func (.func gf) #[] kf.toArray)]) Try.func131 rfl Try.ntmps131 rfl rfl (fun w0 hpre => ?_)
 obtain ⟨hl, hf⟩ := hpre
 have hlhl := hl.2.1
 refine c_seq (c_region ?_)
 refine o_as rfl rfl ?_
 refine o_as rfl rfl ?_
 refine o_nil (q_then (c_seq (c_region ?_)))
 refine o_mv rfl rfl ?_
 refine o_p (p_len_slice rfl rfl Try.underlying84) ?_
 refine o_as rfl rfl ?_
 refine o_nil (q_then (c_seq (c_region ?_)))
 refine o_mv rfl rfl ?_
 refine o_as rfl rfl ?_
 refine o_as rfl rfl ?_
 refine o_nil (q_then (c_seq (c_block ?_)))
 refine c_loop (St := Int × Int)
  (fun ⟨i, j⟩ => [(0, .slice al l.length cl), (1, Vi target), (2, .func (.func gf) #[] kf.toArray), (8, Vi (l.length : Int)), (9, Vi i), (10, Vi j)])
  (fun ⟨i, j⟩ => [base w0])
  (fun ⟨i, j⟩ => LowI (fun x => f x target) l i j)
  (fun ⟨i, j⟩ => (j - i).toNat)
  (0, (l.length : Int)) ?_ (sr (sr (sr (sr (sr (sr (Sub.nil _))))))) (fun _ hw => hw) ?_
 ·exact LowI.start _ _
 rintro ⟨i, j⟩ hI K hK1
 have h0 := hI.i0
 have h1 := hI.ij
 have h2 := hI.jl
 have hh := half_eq h0 h1 (by omega)
 show SC _ _ Try.prog 49 w0 _ _ [(0, .slice al l.length cl), (1, Vi target), (2, .func (.func gf) #[] kf.toArray), (8, Vi (l.length : Int)), (9, Vi i), (10, Vi j)] [base w0]
 refine c_seq (c_seq (c_region ?_))
 refine o_mv rfl rfl ?_
 refine o_mv rfl rfl ?_
 refine o_p (p_lt rfl rfl) ?_
 refine o_nil (q_then ?_)
 refine c_cond rfl (fun hc2 => ?_) (fun hc2 => ?_)
 ·simp only [decide_eq_true_eq] at hc2
  refine c_skip (q_then (c_block (c_seq (c_region ?_))))
  refine o_mv rfl rfl ?_
  refine o_mv rfl rfl ?_
  refine o_p (p_addb rfl rfl (by omega)) ?_
  refine o_p (pu_conv (z := (i + j)) rfl Try.underlying3 Try.underlying73) ?_
  refine o_p (pu_shr (p := (toU (i + j))) (m := 1) rfl rfl (by decide)) ?_
  refine o_p (p_conv (z := ((shrU (toU (i + j)) 1).toNat : Int)) rfl Try.underlying73 Try.underlying3) ?_
  refine o_as rfl rfl ?_
  refine o_nil (q_then (c_seq (c_region ?_)))
  refine o_mv rfl rfl ?_
  refine o_mv rfl rfl ?_
  refine o_mv rfl rfl ?_
  refine o_p (p_indexAddr (L := l) (T := tEntry) (i := (IntKind.i64.wrap ((shrU (toU (i + j)) 1).toNat : Int))) rfl rfl (rd_base (i := 0) rfl hl) Try.underlying84 sz139 (by omega) (by omega)) ?_
  refine o_p (p_loadEn (i := (IntKind.i64.wrap ((shrU (toU (i + j)) 1).toNat : Int)).toNat) (T := tEntry) (L := l) (vs := [Vi ((l.getD ((IntKind.i64.wrap ((shrU (toU (i + j)) 1).toNat : Int)).toNat) default).key), Vi ((l.getD ((IntKind.i64.wrap ((shrU (toU (i + j)) 1).toNat : Int)).toNat) default).value), Vi ((l.getD ((IntKind.i64.wrap ((shrU (toU (i + j)) 1).toNat : Int)).toNat) default).till)]) rfl (rd_base (i := 0) rfl hl) (by first | assumption | omega) sh139 (congrArg tEntry.enc (getd_at (by first | assumption | omega) default))) ?_
  refine o_mv rfl rfl ?_
  refine o_call0V (vs := [.agg #[Vi ((l.getD ((IntKind.i64.wrap ((shrU (toU (i + j)) 1).toNat : Int)).toNat) default).key), Vi ((l.getD ((IntKind.i64.wrap ((shrU (toU (i + j)) 1).toNat : Int)).toNat) default).value), Vi ((l.getD ((IntKind.i64.wrap ((shrU (toU (i + j)) 1).toNat : Int)).toNat) default).till)], Vi target]) (caps := kf) (v := Vi (f (l.getD ((IntKind.i64.wrap ((shrU (toU (i + j)) 1).toNat : Int)).toNat) default) target)) rfl rfl (okf (l.getD ((IntKind.i64.wrap ((shrU (toU (i + j)) 1).toNat : Int)).toNat) default) target) hpf (pre_base (i := 0) rfl stf hf) rfl ?_
  refine o_p (p_lt rfl rfl) ?_
  refine o_nil (q_then ?_)
  refine c_cond rfl (fun hc3 => ?_) (fun hc3 => ?_)
  ·simp only [decide_eq_true_eq] at hc3
   refine c_region ?_
   refine o_mv rfl rfl ?_
   refine o_p (p_addb rfl rfl (by omega)) ?_
   refine o_as rfl rfl ?_
   refine o_nil ?_
   refine q_block_normal ?_
   refine q_round hK1 (((IntKind.i64.wrap ((shrU (toU (i + j)) 1).toNat : Int)) + 1), j) ?_ ?_ ?_ ?_
   ·clear hK1
    first | exact hI.up hy1 (by omega) (by omega) (by omega) (by rw [getd_at (by omega) default]; assumption) | exact hI.down hy1 (by omega) (by omega) (by omega) (by rw [getd_at (by omega) default]; assumption)
   ·(try dsimp only); omega
   ·exact sr (sr (sr (sr (sr (sr (Sub.nil _))))))
   ·exact pk [0]
  ·simp only [decide_eq_false_iff_not, Int.not_lt] at hc3
   refine c_region ?_
   refine o_mv rfl rfl ?_
   refine o_as rfl rfl ?_
   refine o_nil ?_
   refine q_block_normal ?_
   refine q_round hK1 (i, (IntKind.i64.wrap ((shrU (toU (i + j)) 1).toNat : Int))) ?_ ?_ ?_ ?_
   ·clear hK1
    first | exact hI.up hy1 (by omega) (by omega) (by omega) (by rw [getd_at (by omega) default]; assumption) | exact hI.down hy1 (by omega) (by omega) (by omega) (by rw [getd_at (by omega) default]; assumption)
   ·(try dsimp only); omega
   ·exact sr (sr (sr (sr (sr (sr (Sub.nil _))))))
   ·exact pk [0]
 ·simp only [decide_eq_false_iff_not, Int.not_lt] at hc2
  refine c_exit ?_
  refine q_then_exit (q_then_exit (q_block_exit (q_then ?_)))
  refine c_seq (c_region ?_)
  refine o_mv rfl rfl ?_
  refine o_mv rfl rfl ?_
  refine o_mv rfl rfl ?_
  refine o_p (p_lt rfl rfl) ?_
  refine o_mv rfl rfl ?_
  refine o_and (p := 48) 9 ((f (l.getD i.toNat default) target) == 0) ?_ ?_ ?_
  ·intro hb4 hk
   simp only [decide_eq_true_eq] at hb4
   refine o_unguard 39 rfl rfl ?_
   refine o_mv rfl rfl ?_
   refine o_unguard 39 rfl rfl ?_
   refine o_mv rfl rfl ?_
   refine o_unguard 39 rfl rfl ?_
   refine o_mv rfl rfl ?_
   refine o_unguard 39 rfl rfl ?_
   refine o_p (p_indexAddr (L := l) (T := tEntry) (i := i) rfl rfl (rd_base (i := 0) rfl hl) Try.underlying84 sz139 (by omega) (by omega)) ?_
   refine o_unguard 39 rfl rfl ?_
   refine o_p (p_loadEn (i := i.toNat) (T := tEntry) (L := l) (vs := [Vi ((l.getD i.toNat default).key), Vi ((l.getD i.toNat default).value), Vi ((l.getD i.toNat default).till)]) rfl (rd_base (i := 0) rfl hl) (by first | assumption | omega) sh139 (congrArg tEntry.enc (getd_at (by first | assumption | omega) default))) ?_
   refine o_unguard 39 rfl rfl ?_
   refine o_mv rfl rfl ?_
   refine o_unguard 39 rfl rfl ?_
   refine o_call0V (vs := [.agg #[Vi ((l.getD i.toNat default).key), Vi ((l.getD i.toNat default).value), Vi ((l.getD i.toNat default).till)], Vi target]) (caps := kf) (v := Vi (f (l.getD i.toNat default) target)) rfl rfl (okf (l.getD i.toNat default) target) hpf (pre_base (i := 0) rfl stf hf) rfl ?_
   refine o_unguard 39 rfl rfl ?_
   refine o_p (p_eq rfl rfl) ?_
   refine o_pt rfl rfl rfl ?_
   exact o_sub (sr (Sub.skip rfl (Sub.skip rfl (Sub.skip rfl (Sub.skip rfl (Sub.skip rfl (Sub.skip rfl (Sub.skip rfl (Sub.skip rfl (Sub.skip rfl (Sub.skip rfl (Sub.refl _)))))))))))) hk
  ·intro hb4 hk
   refine o_guard_no rfl 39 rfl rfl rfl rfl rfl ?_
   refine o_guard_no rfl 39 rfl rfl rfl rfl rfl ?_
   refine o_guard_no rfl 39 rfl rfl rfl rfl rfl ?_
   refine o_guard_no rfl 39 rfl rfl rfl rfl rfl ?_
   refine o_guard_no rfl 39 rfl rfl rfl rfl rfl ?_
   refine o_guard_no rfl 39 rfl rfl rfl rfl rfl ?_
   refine o_guard_no rfl 39 rfl rfl rfl rfl rfl ?_
   refine o_guard_no rfl 39 rfl rfl rfl rfl rfl ?_
   refine o_pf rfl rfl rfl ?_
   exact o_sub (sr (Sub.skip rfl (Sub.skip rfl (Sub.skip rfl (Sub.skip rfl (Sub.skip rfl (Sub.skip rfl (Sub.skip rfl (Sub.skip rfl (Sub.skip rfl (Sub.skip rfl (Sub.refl _)))))))))))) hk
  refine o_as rfl rfl ?_
  refine o_as rfl rfl ?_
  refine o_nil (q_then (c_ret ?_))
  have hr0 : (i : Int) = (lowF (fun x => f x target) l : Int) := by
   exact hI.done (by omega)
  have hr1 : ((decide (i < (l.length : Int)) && ((f (l.getD i.toNat default) target) == 0)) : Bool) = (hitF (fun x => f x target) l) := by
   exact hit_eq (f := fun x => f x target) (hI.done (by omega))
  refine q_end0 (v := .tuple #[Vi i, .bool (decide (i < (l.length : Int)) && ((f (l.getD i.toNat default) target) == 0))]) (rt2 rfl (r_tmp rfl) (r_tmp rfl)) (i := 0) rfl ?_
  exact (by have hcc := congr (congrArg (fun (y0 : Int) (y1 : Bool) => (.tuple #[.int .i64 y0, .bool y1] : Value)) hr0) hr1; exact hcc)

set_option maxHeartbeats 8000000 in
set_option maxRecDepth 100000 in
theorem efind1_ok (x : DEntry) (key : Int) : Fn0 Try.prog 132 [.agg #[Vi x.key, Vi x.value, Vi x.till], Vi key] (fun _ => True) (Vi (cmpI x.key key)) := by
 refine fn0 (nt := 9) (F0 := [(0, .agg #[Vi x.key, Vi x.value, Vi x.till]), (1, Vi key)]) Try.func132 rfl Try.ntmps132 rfl rfl (fun w0 hpre => ?_)
 refine c_seq (c_region ?_)
 refine o_box (v := .agg #[Vi x.key, Vi x.value, Vi x.till]) rfl rfl (fun B1 => ?_)
 refine o_as rfl rfl ?_
 refine o_nil (q_then (c_seq (c_region ?_)))
 refine o_p (p_fieldAddr (j' := 0) rfl fo139_0 rfl) ?_
 refine o_p (p_load (i := 0) (v := Vi x.key) rfl rfl sh3 rfl) ?_
 refine o_mv rfl rfl ?_
 refine o_call0 (v := Vi (cmpI x.key key)) rfl (compare_ok x.key key) hf93 (fun _ _ => trivial) rfl ?_
 refine o_as rfl rfl ?_
 refine o_nil (q_then (c_ret ?_))
 refine q_end0 (v := Vi (cmpI x.key key)) (rt1 rfl (r_tmp rfl)) (i := 1) rfl ?_
 exact rfl

set_option maxHeartbeats 8000000 in
set_option maxRecDepth 100000 in
theorem efind_ok (l : List DEntry) (al : Option Addr) (cl : Nat) (key : Int) (hy1 : Exp.le_ l) : Fn0 Try.prog 88 [.slice al l.length cl, Vi key] (fun w => Rd tEntry w al cl l) (.tuple #[Vi (Exp.findAt l key : Int), .bool (Exp.findIs l key)]) := by
 refine fn0 (nt := 11) (F0 := [(0, .slice al l.length cl), (1, Vi key)]) Try.func88 rfl Try.ntmps88 rfl rfl (fun w0 hpre => ?_)
 have hl := hpre
 have hlhl := hl.2.1
 refine c_seq (c_region ?_)
 refine o_as rfl rfl ?_
 refine o_as rfl rfl ?_
 refine o_nil (q_then (c_seq (c_region ?_)))
 refine o_mv rfl rfl ?_
 refine o_mv rfl rfl ?_
 refine o_call0 (v := .tuple #[Vi (lowF (fun x => (fun (x : DEntry) (y : Int) => (cmpI x.key y)) x key) l : Int), .bool (hitF (fun x => (fun (x : DEntry) (y : Int) => (cmpI x.key y)) x key) l)]) rfl (bsearchE_ok l al cl key 132 [] (fun x y => (cmpI x.key y)) (fun _ => True) (fun _ _ _ h => h) (fun x y => efind1_ok x y) hf132 (by first | assumption | exact Exp.split_key hy1 _)) hf131 (fun w hw => ⟨(rd_base (i := 0) rfl hl) w hw, trivial⟩) rfl ?_
 refine o_ex rfl rfl rfl ?_
 refine o_ex rfl rfl rfl ?_
 refine o_as rfl rfl ?_
 refine o_as rfl rfl ?_
 refine o_nil (q_then (c_ret ?_))
 have hr0 : ((lowF (fun x => (fun (x : DEntry) (y : Int) => (cmpI x.key y)) x key) l : Int) : Int) = (Exp.findAt l key : Int) := by
  rfl
 have hr1 : ((hitF (fun x => (fun (x : DEntry) (y : Int) => (cmpI x.key y)) x key) l) : Bool) = (Exp.findIs l key) := by
  rfl
 refine q_end0 (v := .tuple #[Vi (lowF (fun x => (fun (x : DEntry) (y : Int) => (cmpI x.key y)) x key) l : Int), .bool (hitF (fun x => (fun (x : DEntry) (y : Int) => (cmpI x.key y)) x key) l)]) (rt2 rfl (r_tmp rfl) (r_tmp rfl)) (i := 0) rfl ?_
 exact (by have hcc := congr (congrArg (fun (y0 : Int) (y1 : Bool) => (.tuple #[.int .i64 y0, .bool y1] : Value)) hr0) hr1; exact hcc)

set_option maxHeartbeats 8000000 in
set_option maxRecDepth 100000 in
theorem minFunc_ok (l : List DEntry) (al : Option Addr) (cl : Nat) (gf : FuncId) (kf : List Value) (f : DEntry → DEntry → Int) (Pf : World → Prop) (stf : ∀ w w', Below w.heap.size w w' → Pf w → Pf w') (okf : ∀ (x : DEntry) (y : DEntry), Fn0 Try.prog gf (.agg #[Vi x.key, Vi x.value, Vi x.till] :: .agg #[Vi y.key, Vi y.value, Vi y.till] :: kf) Pf (Vi (f x y))) (hpf : HasFn Try.prog gf) (hy1 : 0 < l.length) : Fn0 Try.prog 91 [.slice al l.length cl, .func (.func gf) #[] kf.toArray] (fun w => Rd tEntry w al cl l ∧ Pf w) (.agg #[Vi ((minF f l).key), Vi ((minF f l).value), Vi ((minF f l).till)]) := by
 refine fn0 (nt := 33) (F0 := [(0, .slice al l.length cl), (1, .func (.func gf) #[] kf.toArray)]) Try.func91 rfl Try.ntmps91 rfl rfl (fun w0 hpre => ?_)
 obtain ⟨hl, hf⟩ := hpre
 have hlhl := hl.2.1
 refine c_seq (c_region ?_)
 refine o_alloc ze139 rfl (fun B1 => ?_)
 refine o_nil (q_then (c_seq (c_seq (c_region ?_))))
 refine o_mv rfl rfl ?_
 refine o_p (p_len_slice rfl rfl Try.underlying84) ?_
 refine o_p (p_lt rfl rfl) ?_
 refine o_nil (q_then ?_)
 refine c_cond rfl (fun hc2 => ?_) (fun hc2 => ?_)
 ·simp only [decide_eq_true_eq] at hc2
  exfalso; omega
 ·simp only [decide_eq_false_iff_not, Int.not_lt] at hc2
  refine c_skip (q_then (c_seq (c_region ?_)))
  refine o_mv rfl rfl ?_
  refine o_p (p_indexAddr (L := l) (T := tEntry) (i := 0) rfl rfl (rd_base (i := 1) rfl hl) Try.underlying84 sz139 (by omega) (by omega)) ?_
  refine o_p (p_loadEn (i := 0) (T := tEntry) (L := l) (vs := [Vi ((l.getD 0 default).key), Vi ((l.getD 0 default).value), Vi ((l.getD 0 default).till)]) rfl (rd_base (i := 1) rfl hl) (by first | assumption | omega) sh139 (congrArg tEntry.enc (getd_at (by first | assumption | omega) default))) ?_
  refine o_alloc ze139 rfl (fun B3 => ?_)
  refine o_storeN (i := 0) (vs := [Vi ((l.getD 0 default).key), Vi ((l.getD 0 default).value), Vi ((l.getD 0 default).till)]) (cs' := [Vi ((l.getD 0 default).key), Vi ((l.getD 0 default).value), Vi ((l.getD 0 default).till)]) rfl rfl rfl sz139 rfl rfl rfl rfl ?_
  refine o_nil (q_then (c_seq (c_seq (c_region ?_))))
  refine o_as rfl rfl ?_
  refine o_nil (q_then (c_block ?_))
  refine c_loop (St := Nat × DEntry)
   (fun ⟨i, mm⟩ => [(0, .slice al l.length cl), (1, .func (.func gf) #[] kf.toArray), (4, .pointer (some ⟨B1, 0, none⟩)), (5, .pointer (some ⟨B3, 0, none⟩)), (6, Vi (i : Int))])
   (fun ⟨i, mm⟩ => [box B3 [Vi mm.key, Vi mm.value, Vi mm.till] 139, box B1 [Vi 0, Vi 0, Vi 0] 139, base w0])
   (fun ⟨i, mm⟩ => 1 ≤ i ∧ i ≤ l.length ∧ mm = minTo f l (i - 1))
   (fun ⟨i, mm⟩ => l.length - i)
   (1, (l.getD 0 default)) ?_ (sr (sr (sr (sr (sr (Sub.nil _)))))) (fun _ hw => hw) ?_
  ·exact ⟨Nat.le_refl _, by omega, rfl⟩
  rintro ⟨i, mm⟩ hI K hK4
  show SC _ _ Try.prog 33 w0 _ _ [(0, .slice al l.length cl), (1, .func (.func gf) #[] kf.toArray), (4, .pointer (some ⟨B1, 0, none⟩)), (5, .pointer (some ⟨B3, 0, none⟩)), (6, Vi (i : Int))] [box B3 [Vi mm.key, Vi mm.value, Vi mm.till] 139, box B1 [Vi 0, Vi 0, Vi 0] 139, base w0]
  refine c_seq (c_seq (c_region ?_))
  refine o_mv rfl rfl ?_
  refine o_mv rfl rfl ?_
  refine o_p (p_len_slice rfl rfl Try.underlying84) ?_
  refine o_p (p_lt rfl rfl) ?_
  refine o_nil (q_then ?_)
  refine c_cond rfl (fun hc5 => ?_) (fun hc5 => ?_)
  ·simp only [decide_eq_true_eq] at hc5
   refine c_skip (q_then (c_seq (c_block (c_seq ?_))))
   refine c_held hmix [box B3 [Vi mm.key, Vi mm.value, Vi mm.till] 139, box B1 [Vi 0, Vi 0, Vi 0] 139, base w0] rfl rfl ?_
   refine h_t0 (i := 0) (ls := #[T1,F0,F0,F0,F0,F0,F0,F0]) rfl (p_move rfl) ?_
   refine h_t0 (i := 1) (ls := #[T1,T1,F0,F0,F0,F0,F0,F0]) rfl (p_move rfl) ?_
   refine h_t0 (i := 2) (ls := #[T1,T1,T1,F0,F0,F0,F0,F0]) rfl (p_move rfl) ?_
   refine h_t0 (i := 3) (ls := #[T1,T1,T1,T1,F0,F0,F0,F0]) rfl (p_indexAddr (L := l) (T := tEntry) (i := (i : Int)) rfl rfl (rd_base (i := 2) rfl hl) Try.underlying84 sz139 (by omega) (by omega)) ?_
   refine h_t0 (i := 4) (ls := #[T1,T1,T1,T1,T1,F0,F0,F0]) rfl (p_loadEn (i := i) (T := tEntry) (L := l) (vs := [Vi ((l.getD i default).key), Vi ((l.getD i default).value), Vi ((l.getD i default).till)]) rfl (rd_base (i := 2) rfl hl) (by first | assumption | omega) sh139 (congrArg tEntry.enc (getd_at (by first | assumption | omega) default))) ?_
   refine h_t0 (i := 5) (ls := #[T1,T1,T1,T1,T1,T1,F0,F0]) rfl (p_load_agg (i := 0) (vs := [Vi mm.key, Vi mm.value, Vi mm.till]) rfl rfl sh139 rfl rfl) ?_
   refine h_one (i := 6) (ls := #[T1,T1,T1,T1,T1,T1,T1,F0]) (by kernel_rfl) rfl rfl ?_
   refine o_call0V (vs := [.agg #[Vi ((l.getD i default).key), Vi ((l.getD i default).value), Vi ((l.getD i default).till)], .agg #[Vi mm.key, Vi mm.value, Vi mm.till]]) (caps := kf) (v := Vi (f (l.getD i default) mm)) rfl rfl (okf (l.getD i default) mm) hpf (pre_base (i := 2) rfl stf hf) rfl ?_
   refine o_nil ?_
   refine h_next (dp (lr)) ?_
   refine h_t0 (i := 7) (ls := #[T1,T1,T1,T1,T1,T1,T1,T1]) rfl (p_lt rfl rfl) ?_
   refine h_done (by kernel_rfl) ?_
   refine q_then ?_
   refine c_cond rfl (fun hc7 => ?_) (fun hc7 => ?_)
   ·simp only [decide_eq_true_eq] at hc7
    refine c_region ?_
    refine o_mv rfl rfl ?_
    refine o_mv rfl rfl ?_
    refine o_p (p_indexAddr (L := l) (T := tEntry) (i := (i : Int)) rfl rfl (rd_base (i := 2) rfl hl) Try.underlying84 sz139 (by omega) (by omega)) ?_
    refine o_p (p_loadEn (i := i) (T := tEntry) (L := l) (vs := [Vi ((l.getD i default).key), Vi ((l.getD i default).value), Vi ((l.getD i default).till)]) rfl (rd_base (i := 2) rfl hl) (by first | assumption | omega) sh139 (congrArg tEntry.enc (getd_at (by first | assumption | omega) default))) ?_
    refine o_storeN (i := 0) (vs := [Vi ((l.getD i default).key), Vi ((l.getD i default).value), Vi ((l.getD i default).till)]) (cs' := [Vi ((l.getD i default).key), Vi ((l.getD i default).value), Vi ((l.getD i default).till)]) rfl rfl rfl sz139 rfl rfl rfl rfl ?_
    refine o_nil ?_
    refine q_block_normal (q_then ?_)
    refine c_region ?_
    refine o_mv rfl rfl ?_
    refine o_p (p_addb rfl rfl (by omega)) ?_
    refine o_as rfl rfl ?_
    refine o_nil ?_
    refine q_round hK4 (i + 1, (l.getD i default)) ?_ ?_ ?_ ?_
    ·clear hK4
     first | exact ⟨by omega, by omega, min_yes hI.2.2 hI.1 (by assumption)⟩ | exact ⟨by omega, by omega, min_no hI.2.2 hI.1 (by assumption)⟩
    ·(try dsimp only); omega
    ·exact sr (sr (sr (sr (sr (Sub.nil _)))))
    ·exact pk [0, 1, 2]
   ·simp only [decide_eq_false_iff_not, Int.not_lt] at hc7
    refine c_skip ?_
    refine q_block_normal (q_then ?_)
    refine c_region ?_
    refine o_mv rfl rfl ?_
    refine o_p (p_addb rfl rfl (by omega)) ?_
    refine o_as rfl rfl ?_
    refine o_nil ?_
    refine q_round hK4 (i + 1, mm) ?_ ?_ ?_ ?_
    ·clear hK4
     first | exact ⟨by omega, by omega, min_yes hI.2.2 hI.1 (by assumption)⟩ | exact ⟨by omega, by omega, min_no hI.2.2 hI.1 (by assumption)⟩
    ·(try dsimp only); omega
    ·exact sr (sr (sr (sr (sr (Sub.nil _)))))
    ·exact pk [0, 1, 2]
  ·simp only [decide_eq_false_iff_not, Int.not_lt] at hc5
   refine c_exit ?_
   refine q_then_exit (q_then_exit (q_block_exit (q_then ?_)))
   refine c_seq (c_region ?_)
   refine o_p (p_load_agg (i := 0) (vs := [Vi mm.key, Vi mm.value, Vi mm.till]) rfl rfl sh139 rfl rfl) ?_
   refine o_storeN (i := 1) (vs := [Vi mm.key, Vi mm.value, Vi mm.till]) (cs' := [Vi mm.key, Vi mm.value, Vi mm.till]) rfl rfl rfl sz139 rfl rfl rfl rfl ?_
   refine o_nil (q_then (c_ret ?_))
   have hm := min_done hI.2.2 (by omega) hI.2.1
   have hr0 : (mm.key : Int) = (minF f l).key := by
    rw [hm]
   have hr1 : (mm.value : Int) = (minF f l).value := by
    rw [hm]
   have hr2 : (mm.till : Int) = (minF f l).till := by
    rw [hm]
   refine q_end0 (v := .agg #[Vi mm.key, Vi mm.value, Vi mm.till]) (rt1 rfl (r_cell (i := 1) rfl rfl sh139 rfl)) (i := 2) rfl ?_
   exact (by have hcc := congr (congr (congrArg (fun (y0 : Int) (y1 : Int) (y2 : Int) => (.agg #[.int .i64 y0, .int .i64 y1, .int .i64 y2] : Value)) hr0) hr1) hr2; exact hcc)

set_option maxHeartbeats 8000000 in
set_option maxRecDepth 100000 in
theorem enext1_ok (x : DEntry) (y : DEntry) : Fn0 Try.prog 92 [.agg #[Vi x.key, Vi x.value, Vi x.till], .agg #[Vi y.key, Vi y.value, Vi y.till]] (fun _ => True) (Vi (cmpI x.till y.till)) := by
 refine fn0 (nt := 10) (F0 := [(0, .agg #[Vi x.key, Vi x.value, Vi x.till]), (1, .agg #[Vi y.key, Vi y.value, Vi y.till])]) Try.func92 rfl Try.ntmps92 rfl rfl (fun w0 hpre => ?_)
 refine c_seq (c_region ?_)
 refine o_box (v := .agg #[Vi x.key, Vi x.value, Vi x.till]) rfl rfl (fun B1 => ?_)
 refine o_box (v := .agg #[Vi y.key, Vi y.value, Vi y.till]) rfl rfl (fun B2 => ?_)
 refine o_as rfl rfl ?_
 refine o_nil (q_then (c_seq (c_region ?_)))
 refine o_p (p_fieldAddr (j' := 2) rfl fo139_2 rfl) ?_
 refine o_p (p_load (i := 1) (v := Vi x.till) rfl rfl sh3 rfl) ?_
 refine o_p (p_fieldAddr (j' := 2) rfl fo139_2 rfl) ?_
 refine o_p (p_load (i := 0) (v := Vi y.till) rfl rfl sh3 rfl) ?_
 refine o_call0 (v := Vi (cmpI x.till y.till)) rfl (compare_ok x.till y.till) hf93 (fun _ _ => trivial) rfl ?_
 refine o_as rfl rfl ?_
 refine o_nil (q_then (c_ret ?_))
 refine q_end0 (v := Vi (cmpI x.till y.till)) (rt1 rfl (r_tmp rfl)) (i := 2) rfl ?_
 exact rfl
end Go.Proofs.Ytnmbkopnopaigaa

/- The walks, printed by a program from the translation and a specification. -/
namespace Go.Proofs.Ytnmbkopnopaigaa
open Go.Sx Go.RowKit
set_option maxHeartbeats 8000000 in
set_option maxRecDepth 100000 in
theorem echeck_ok (s : DStore) (as_0 : Option Addr) (cs_0 : Nat) : Fn0 Try.prog 90 [.agg #[Vi s.life, .slice as_0 s.entries.length cs_0]] (fun w => Rd tEntry w as_0 cs_0 s.entries) (Vi (Exp.check s)) := by
 refine fn0 (nt := 56) (F0 := [(0, .agg #[Vi s.life, .slice as_0 s.entries.length cs_0])]) Try.func90 rfl Try.ntmps90 rfl rfl (fun w0 hpre => ?_)
 have hs_0 := hpre
 have hlhs_0 := hs_0.2.1
 refine c_seq (c_region ?_)
 refine o_box (v := .agg #[Vi s.life, .slice as_0 s.entries.length cs_0]) rfl rfl (fun B1 => ?_)
 refine o_as rfl rfl ?_
 refine o_nil (q_then (c_seq (c_block (c_seq (c_region ?_)))))
 refine o_p (p_fieldAddr (j' := 0) rfl fo86_0 rfl) ?_
 refine o_p (p_load (i := 0) (v := Vi s.life) rfl rfl sh3 rfl) ?_
 refine o_p (p_lt rfl rfl) ?_
 refine o_mv rfl rfl ?_
 refine o_or (p := 14) 4 (decide (1073741824 < s.life)) ?_ ?_ ?_
 ·intro hb2 hk
  simp only [decide_eq_false_iff_not, Int.not_lt] at hb2
  refine o_unguard 10 rfl rfl ?_
  refine o_p (p_fieldAddr (j' := 0) rfl fo86_0 rfl) ?_
  refine o_unguard 10 rfl rfl ?_
  refine o_p (p_load (i := 0) (v := Vi s.life) rfl rfl sh3 rfl) ?_
  refine o_unguard 10 rfl rfl ?_
  refine o_p (p_gt rfl rfl) ?_
  refine o_pf rfl rfl rfl ?_
  exact o_sub (sr (Sub.skip rfl (Sub.skip rfl (Sub.skip rfl (Sub.skip rfl (Sub.skip rfl (Sub.refl _))))))) hk
 ·intro hb2 hk
  refine o_guard_no rfl 10 rfl rfl rfl rfl rfl ?_
  refine o_guard_no rfl 10 rfl rfl rfl rfl rfl ?_
  refine o_guard_no rfl 10 rfl rfl rfl rfl rfl ?_
  refine o_pt rfl rfl rfl ?_
  exact o_sub (sr (Sub.skip rfl (Sub.skip rfl (Sub.skip rfl (Sub.skip rfl (Sub.skip rfl (Sub.refl _))))))) hk
 refine o_as rfl rfl ?_
 refine o_nil (q_then ?_)
 refine c_cond rfl (fun hc3 => ?_) (fun hc3 => ?_)
 ·simp only [Bool.or_eq_true, decide_eq_true_eq] at hc3
  refine c_seq (c_region ?_)
  refine o_as rfl rfl ?_
  refine o_nil (q_then (c_ret ?_))
  refine q_block_ret (q_then_ret ?_)
  have hr0 : (3 : Int) = (Exp.check s) := by
   first | exact Exp.chk1 (by assumption) | exact Exp.chk2 hlife (by assumption) | exact Exp.chk3 hlife (by omega) (hI.bad (by omega) (Exp.entry_bad (by assumption))) | exact Exp.chk3 hlife (by omega) (hI.low (by omega) (Exp.entry_fine (by assumption)) (by assumption)) | exact Exp.chk3 hlife (by omega) (hI.done (by omega))
  refine q_end0 (v := Vi 3) (rt1 rfl (r_tmp rfl)) (i := 1) rfl ?_
  exact (by have hcc := congrArg (fun (y0 : Int) => (.int .i64 y0 : Value)) hr0; exact hcc)
 ·simp only [Bool.or_eq_false_iff, decide_eq_false_iff_not, Int.not_lt] at hc3
  have hlife := hc3
  refine c_seq (c_region ?_)
  refine o_p (p_fieldAddr (j' := 1) rfl fo86_1 rfl) ?_
  refine o_p (p_load (i := 0) (v := .slice as_0 s.entries.length cs_0) rfl rfl sh84 rfl) ?_
  refine o_p (p_len_slice rfl rfl Try.underlying84) ?_
  refine o_p (p_gt rfl rfl) ?_
  refine o_as rfl rfl ?_
  refine o_nil (q_then ?_)
  refine c_cond rfl (fun hc4 => ?_) (fun hc4 => ?_)
  ·simp only [decide_eq_true_eq] at hc4
   refine c_seq (c_region ?_)
   refine o_as rfl rfl ?_
   refine o_nil (q_then (c_ret ?_))
   refine q_block_ret (q_then_ret ?_)
   have hr0 : (2 : Int) = (Exp.check s) := by
    first | exact Exp.chk1 (by assumption) | exact Exp.chk2 hlife (by assumption) | exact Exp.chk3 hlife (by omega) (hI.bad (by omega) (Exp.entry_bad (by assumption))) | exact Exp.chk3 hlife (by omega) (hI.low (by omega) (Exp.entry_fine (by assumption)) (by assumption)) | exact Exp.chk3 hlife (by omega) (hI.done (by omega))
   refine q_end0 (v := Vi 2) (rt1 rfl (r_tmp rfl)) (i := 1) rfl ?_
   exact (by have hcc := congrArg (fun (y0 : Int) => (.int .i64 y0 : Value)) hr0; exact hcc)
  ·simp only [decide_eq_false_iff_not, Int.not_lt] at hc4
   refine c_skip ?_
   refine q_block_normal (q_then ?_)
   refine c_seq (c_region ?_)
   refine o_as rfl rfl ?_
   refine o_nil (q_then (c_seq (c_seq (c_region ?_))))
   refine o_p (p_fieldAddr (j' := 1) rfl fo86_1 rfl) ?_
   refine o_p (p_load (i := 0) (v := .slice as_0 s.entries.length cs_0) rfl rfl sh84 rfl) ?_
   refine o_p (p_len_slice rfl rfl Try.underlying84) ?_
   refine o_mv rfl rfl ?_
   refine o_nil (q_then (c_block ?_))
   refine c_loop (St := Int × Nat)
    (fun ⟨last, k⟩ => [(3, Vi last), (21, .slice as_0 s.entries.length cs_0), (22, Vi (s.entries.length : Int)), (23, Vi (k : Int))])
    (fun ⟨last, k⟩ => [box B1 [Vi s.life, .slice as_0 s.entries.length cs_0] 86, base w0])
    (fun ⟨last, k⟩ => Exp.CkI s.entries last k)
    (fun ⟨last, k⟩ => s.entries.length - k)
    ((-1), 0) ?_ (sr (sr (sr (sr (Sub.nil _))))) (fun _ hw => hw) ?_
   ·exact Exp.CkI.start _
   rintro ⟨last, k⟩ hI K hK5
   show SC _ _ Try.prog 56 w0 _ _ [(3, Vi last), (21, .slice as_0 s.entries.length cs_0), (22, Vi (s.entries.length : Int)), (23, Vi (k : Int))] [box B1 [Vi s.life, .slice as_0 s.entries.length cs_0] 86, base w0]
   refine c_seq (c_region ?_)
   refine o_p (p_lt rfl rfl) ?_
   refine o_nil (q_then (c_seq ?_))
   refine c_cond rfl (fun hc6 => ?_) (fun hc6 => ?_)
   ·simp only [decide_eq_true_eq] at hc6
    refine c_skip (q_then (c_seq (c_block (c_seq (c_region ?_)))))
    refine o_p (p_indexAddr (L := s.entries) (T := tEntry) (i := (k : Int)) rfl rfl (rd_base (i := 1) rfl hs_0) Try.underlying84 sz139 (by omega) (by omega)) ?_
    refine o_p (p_loadEn (i := k) (T := tEntry) (L := s.entries) (vs := [Vi ((s.entries[k]).key), Vi ((s.entries[k]).value), Vi ((s.entries[k]).till)]) rfl (rd_base (i := 1) rfl hs_0) (by first | assumption | omega) sh139 rfl) ?_
    refine o_alloc ze139 rfl (fun B7 => ?_)
    refine o_storeN (i := 0) (vs := [Vi ((s.entries[k]).key), Vi ((s.entries[k]).value), Vi ((s.entries[k]).till)]) (cs' := [Vi ((s.entries[k]).key), Vi ((s.entries[k]).value), Vi ((s.entries[k]).till)]) rfl rfl rfl sz139 rfl rfl rfl rfl ?_
    refine o_nil (q_then (c_seq (c_block (c_seq (c_region ?_)))))
    refine o_p (p_fieldAddr (j' := 0) rfl fo139_0 rfl) ?_
    refine o_p (p_load (i := 0) (v := Vi ((s.entries[k]).key)) rfl rfl sh3 rfl) ?_
    refine o_call0 (v := .bool (Lru.okKey ((s.entries[k]).key))) rfl (key_ok ((s.entries[k]).key)) hf123 (fun _ _ => trivial) rfl ?_
    refine o_p (p_not (b := (Lru.okKey ((s.entries[k]).key))) rfl) ?_
    refine o_mv rfl rfl ?_
    refine o_or (p := 37) 5 (!(Exp.okValue ((s.entries[k]).value))) ?_ ?_ ?_
    ·intro hb8 hk
     simp only [Bool.not_eq_false'] at hb8
     refine o_unguard 32 rfl rfl ?_
     refine o_p (p_fieldAddr (j' := 1) rfl fo139_1 rfl) ?_
     refine o_unguard 32 rfl rfl ?_
     refine o_p (p_load (i := 0) (v := Vi ((s.entries[k]).value)) rfl rfl sh3 rfl) ?_
     refine o_unguard 32 rfl rfl ?_
     refine o_call0 (v := .bool (Exp.okValue ((s.entries[k]).value))) rfl (evalue_ok ((s.entries[k]).value)) hf87 (fun _ _ => trivial) rfl ?_
     refine o_unguard 32 rfl rfl ?_
     refine o_p (p_not (b := (Exp.okValue ((s.entries[k]).value))) rfl) ?_
     refine o_pf rfl rfl rfl ?_
     exact o_sub (sr (Sub.skip rfl (Sub.skip rfl (Sub.skip rfl (Sub.skip rfl (Sub.skip rfl (Sub.skip rfl (Sub.refl _)))))))) hk
    ·intro hb8 hk
     refine o_guard_no rfl 32 rfl rfl rfl rfl rfl ?_
     refine o_guard_no rfl 32 rfl rfl rfl rfl rfl ?_
     refine o_guard_no rfl 32 rfl rfl rfl rfl rfl ?_
     refine o_guard_no rfl 32 rfl rfl rfl rfl rfl ?_
     refine o_pt rfl rfl rfl ?_
     exact o_sub (sr (Sub.skip rfl (Sub.skip rfl (Sub.skip rfl (Sub.skip rfl (Sub.skip rfl (Sub.skip rfl (Sub.refl _)))))))) hk
    refine o_mv rfl rfl ?_
    refine o_or (p := 42) 4 (decide ((s.entries[k]).till < 0)) ?_ ?_ ?_
    ·intro hb9 hk
     simp only [Bool.or_eq_false_iff, Bool.not_eq_false'] at hb9
     refine o_unguard 38 rfl rfl ?_
     refine o_p (p_fieldAddr (j' := 2) rfl fo139_2 rfl) ?_
     refine o_unguard 38 rfl rfl ?_
     refine o_p (p_load (i := 0) (v := Vi ((s.entries[k]).till)) rfl rfl sh3 rfl) ?_
     refine o_unguard 38 rfl rfl ?_
     refine o_p (p_lt rfl rfl) ?_
     refine o_pf rfl rfl rfl ?_
     exact o_sub (sr (Sub.skip rfl (Sub.skip rfl (Sub.skip rfl (Sub.skip rfl (Sub.skip rfl (Sub.refl _))))))) hk
    ·intro hb9 hk
     refine o_guard_no rfl 38 rfl rfl rfl rfl rfl ?_
     refine o_guard_no rfl 38 rfl rfl rfl rfl rfl ?_
     refine o_guard_no rfl 38 rfl rfl rfl rfl rfl ?_
     refine o_pt rfl rfl rfl ?_
     exact o_sub (sr (Sub.skip rfl (Sub.skip rfl (Sub.skip rfl (Sub.skip rfl (Sub.skip rfl (Sub.refl _))))))) hk
    refine o_mv rfl rfl ?_
    refine o_or (p := 47) 4 (decide (1100585369600 < (s.entries[k]).till)) ?_ ?_ ?_
    ·intro hb10 hk
     simp only [Bool.or_eq_false_iff, Bool.not_eq_false', decide_eq_false_iff_not, Int.not_lt] at hb10
     refine o_unguard 43 rfl rfl ?_
     refine o_p (p_fieldAddr (j' := 2) rfl fo139_2 rfl) ?_
     refine o_unguard 43 rfl rfl ?_
     refine o_p (p_load (i := 0) (v := Vi ((s.entries[k]).till)) rfl rfl sh3 rfl) ?_
     refine o_unguard 43 rfl rfl ?_
     refine o_p (p_gt rfl rfl) ?_
     refine o_pf rfl rfl rfl ?_
     exact o_sub (sr (Sub.skip rfl (Sub.skip rfl (Sub.skip rfl (Sub.skip rfl (Sub.skip rfl (Sub.refl _))))))) hk
    ·intro hb10 hk
     refine o_guard_no rfl 43 rfl rfl rfl rfl rfl ?_
     refine o_guard_no rfl 43 rfl rfl rfl rfl rfl ?_
     refine o_guard_no rfl 43 rfl rfl rfl rfl rfl ?_
     refine o_pt rfl rfl rfl ?_
     exact o_sub (sr (Sub.skip rfl (Sub.skip rfl (Sub.skip rfl (Sub.skip rfl (Sub.skip rfl (Sub.refl _))))))) hk
    refine o_as rfl rfl ?_
    refine o_nil (q_then ?_)
    refine c_cond rfl (fun hc11 => ?_) (fun hc11 => ?_)
    ·simp only [Bool.or_eq_true, Bool.not_eq_true', decide_eq_true_eq] at hc11
     refine c_seq (c_region ?_)
     refine o_as rfl rfl ?_
     refine o_nil (q_then (c_ret ?_))
     refine q_block_ret (q_then_ret (q_block_ret (q_then_ret (q_then_ret (q_block_ret (q_then_ret ?_))))))
     have hr0 : (3 : Int) = (Exp.check s) := by
      first | exact Exp.chk1 (by assumption) | exact Exp.chk2 hlife (by assumption) | exact Exp.chk3 hlife (by omega) (hI.bad (by omega) (Exp.entry_bad (by assumption))) | exact Exp.chk3 hlife (by omega) (hI.low (by omega) (Exp.entry_fine (by assumption)) (by assumption)) | exact Exp.chk3 hlife (by omega) (hI.done (by omega))
     refine q_end0 (v := Vi 3) (rt1 rfl (r_tmp rfl)) (i := 2) rfl ?_
     exact (by have hcc := congrArg (fun (y0 : Int) => (.int .i64 y0 : Value)) hr0; exact hcc)
    ·simp only [Bool.or_eq_false_iff, Bool.not_eq_false', decide_eq_false_iff_not, Int.not_lt] at hc11
     refine c_seq (c_region ?_)
     refine o_p (p_fieldAddr (j' := 0) rfl fo139_0 rfl) ?_
     refine o_p (p_load (i := 0) (v := Vi ((s.entries[k]).key)) rfl rfl sh3 rfl) ?_
     refine o_mv rfl rfl ?_
     refine o_p (p_le rfl rfl) ?_
     refine o_as rfl rfl ?_
     refine o_nil (q_then ?_)
     refine c_cond rfl (fun hc12 => ?_) (fun hc12 => ?_)
     ·simp only [decide_eq_true_eq] at hc12
      refine c_seq (c_region ?_)
      refine o_as rfl rfl ?_
      refine o_nil (q_then (c_ret ?_))
      refine q_block_ret (q_then_ret (q_block_ret (q_then_ret (q_then_ret (q_block_ret (q_then_ret ?_))))))
      have hr0 : (4 : Int) = (Exp.check s) := by
       first | exact Exp.chk1 (by assumption) | exact Exp.chk2 hlife (by assumption) | exact Exp.chk3 hlife (by omega) (hI.bad (by omega) (Exp.entry_bad (by assumption))) | exact Exp.chk3 hlife (by omega) (hI.low (by omega) (Exp.entry_fine (by assumption)) (by assumption)) | exact Exp.chk3 hlife (by omega) (hI.done (by omega))
      refine q_end0 (v := Vi 4) (rt1 rfl (r_tmp rfl)) (i := 2) rfl ?_
      exact (by have hcc := congrArg (fun (y0 : Int) => (.int .i64 y0 : Value)) hr0; exact hcc)
     ·simp only [decide_eq_false_iff_not, Int.not_le] at hc12
      refine c_skip ?_
      refine q_block_normal (q_then ?_)
      refine c_region ?_
      refine o_p (p_fieldAddr (j' := 0) rfl fo139_0 rfl) ?_
      refine o_p (p_load (i := 0) (v := Vi ((s.entries[k]).key)) rfl rfl sh3 rfl) ?_
      refine o_as rfl rfl ?_
      refine o_nil ?_
      refine q_block_normal (q_then ?_)
      refine c_region ?_
      refine o_p (p_addb rfl rfl (by omega)) ?_
      refine o_mv rfl rfl ?_
      refine o_nil ?_
      refine q_round hK5 ((s.entries[k]).key, k + 1) ?_ ?_ ?_ ?_
      ·clear hK5
       exact hI.next (by omega) (Exp.entry_fine (by assumption)) (by assumption)
      ·(try dsimp only); omega
      ·exact sr (sr (sr (sr (Sub.nil _))))
      ·exact pk [1, 2]
   ·simp only [decide_eq_false_iff_not, Int.not_lt] at hc6
    refine c_exit ?_
    refine q_then_exit (q_then_exit (q_block_exit (q_then ?_)))
    refine c_seq (c_region ?_)
    refine o_as rfl rfl ?_
    refine o_nil (q_then (c_ret ?_))
    have hr0 : (0 : Int) = (Exp.check s) := by
     first | exact Exp.chk1 (by assumption) | exact Exp.chk2 hlife (by assumption) | exact Exp.chk3 hlife (by omega) (hI.bad (by omega) (Exp.entry_bad (by assumption))) | exact Exp.chk3 hlife (by omega) (hI.low (by omega) (Exp.entry_fine (by assumption)) (by assumption)) | exact Exp.chk3 hlife (by omega) (hI.done (by omega))
    refine q_end0 (v := Vi 0) (rt1 rfl (r_tmp rfl)) (i := 1) rfl ?_
    exact (by have hcc := congrArg (fun (y0 : Int) => (.int .i64 y0 : Value)) hr0; exact hcc)

set_option maxHeartbeats 8000000 in
set_option maxRecDepth 100000 in
theorem eswept_ok (s : DStore) (as_0 : Option Addr) (cs_0 : Nat) (now : Int) (hy1 : s.entries.length ≤ 40) : FnX Try.prog 85 [.agg #[Vi s.life, .slice as_0 s.entries.length cs_0], Vi now] [] (fun w => SlR tEntry (outer w []).S w as_0 cs_0 s.entries) (Option Addr × Nat × (Nat → Prop) × Option Addr × Nat × (Nat → Prop)) (fun p => .tuple #[.agg #[Vi s.life, .slice p.1 (Exp.live now s.entries).length p.2.1], .slice p.2.2.2.1 (Exp.over now s.entries).length p.2.2.2.2.1]) (fun p => [own tEntry p.2.2.1 p.1 p.2.1 (Exp.live now s.entries), own tInt p.2.2.2.2.2 p.2.2.2.1 p.2.2.2.2.1 (Exp.over now s.entries)]) := by
 refine fnX (nt := 38) (F0 := [(0, .agg #[Vi s.life, .slice as_0 s.entries.length cs_0]), (1, Vi now)]) Try.func85 rfl Try.ntmps85 rfl rfl (fun w0 hpre => ?_)
 have hs_0 := hpre
 have hlhs_0 := hs_0.2.1
 refine c_seq (c_region ?_)
 refine o_box (v := .agg #[Vi s.life, .slice as_0 s.entries.length cs_0]) rfl rfl (fun B1 => ?_)
 refine o_alloc ze86 rfl (fun B2 => ?_)
 refine o_as rfl rfl ?_
 refine o_nil (q_then (c_seq (c_region ?_)))
 refine o_p (p_fieldAddr (j' := 0) rfl fo86_0 rfl) ?_
 refine o_p (p_load (i := 1) (v := Vi s.life) rfl rfl sh3 rfl) ?_
 refine o_p (p_build (cells := [Vi s.life, .slice none 0 0]) fp86 ze86 rfl rfl) ?_
 refine o_alloc ze86 rfl (fun B3 => ?_)
 refine o_storeN (i := 0) (vs := [Vi s.life, .slice none 0 0]) (cs' := [Vi s.life, .slice none 0 0]) rfl rfl rfl sz86 rfl rfl rfl rfl ?_
 refine o_nil (q_then (c_seq (c_region ?_)))
 refine o_as rfl rfl ?_
 refine o_nil (q_then (c_seq (c_seq (c_region ?_))))
 refine o_p (p_fieldAddr (j' := 1) rfl fo86_1 rfl) ?_
 refine o_p (p_load (i := 2) (v := .slice as_0 s.entries.length cs_0) rfl rfl sh84 rfl) ?_
 refine o_p (p_len_slice rfl rfl Try.underlying84) ?_
 refine o_mv rfl rfl ?_
 refine o_nil (q_then (c_block ?_))
 refine c_ownNil tInt ?_
 refine c_ownNil tEntry ?_
 refine c_loop (St := List Int × Option Addr × Nat × (Nat → Prop) × Nat × DStore × Option Addr × Nat × (Nat → Prop))
  (fun ⟨gone, agone, cgone, Sgone, k, oc, aoc_0, coc_0, Soc_0⟩ => [(1, Vi now), (4, .pointer (some ⟨B2, 0, none⟩)), (6, .pointer (some ⟨B3, 0, none⟩)), (7, .slice agone gone.length cgone), (14, .slice as_0 s.entries.length cs_0), (15, Vi (s.entries.length : Int)), (16, Vi (k : Int))])
  (fun ⟨gone, agone, cgone, Sgone, k, oc, aoc_0, coc_0, Soc_0⟩ => [own tEntry Soc_0 aoc_0 coc_0 oc.entries, own tInt Sgone agone cgone gone, box B3 [Vi oc.life, .slice aoc_0 oc.entries.length coc_0] 86, box B2 [Vi 0, .slice none 0 0] 86, box B1 [Vi s.life, .slice as_0 s.entries.length cs_0] 86, outer w0 []])
  (fun ⟨gone, agone, cgone, Sgone, k, oc, aoc_0, coc_0, Soc_0⟩ => Exp.SwI s now oc gone k)
  (fun ⟨gone, agone, cgone, Sgone, k, oc, aoc_0, coc_0, Soc_0⟩ => s.entries.length - k)
  ([], none, 0, (fun _ => False), 0, (⟨s.life, []⟩ : DStore), none, 0, (fun _ => False)) ?_ (sr (sr (sr (sr (sr (sr (sr (Sub.nil _)))))))) (fun _ hw => hw) ?_
 ·exact Exp.SwI.start _ _
 rintro ⟨gone, agone, cgone, Sgone, k, oc, aoc_0, coc_0, Soc_0⟩ hI K hK6
 have hsl := hI.lens
 have hsk := hI.le
 show SC _ _ Try.prog 38 w0 _ _ [(1, Vi now), (4, .pointer (some ⟨B2, 0, none⟩)), (6, .pointer (some ⟨B3, 0, none⟩)), (7, .slice agone gone.length cgone), (14, .slice as_0 s.entries.length cs_0), (15, Vi (s.entries.length : Int)), (16, Vi (k : Int))] [own tEntry Soc_0 aoc_0 coc_0 oc.entries, own tInt Sgone agone cgone gone, box B3 [Vi oc.life, .slice aoc_0 oc.entries.length coc_0] 86, box B2 [Vi 0, .slice none 0 0] 86, box B1 [Vi s.life, .slice as_0 s.entries.length cs_0] 86, outer w0 []]
 refine c_seq (c_region ?_)
 refine o_p (p_lt rfl rfl) ?_
 refine o_nil (q_then (c_seq ?_))
 refine c_cond rfl (fun hc7 => ?_) (fun hc7 => ?_)
 ·simp only [decide_eq_true_eq] at hc7
  refine c_skip (q_then (c_seq (c_block (c_seq (c_region ?_)))))
  refine o_p (p_indexAddr (L := s.entries) (T := tEntry) (i := (k : Int)) rfl rfl (rd_outer (i := 5) rfl hs_0) Try.underlying84 sz139 (by omega) (by omega)) ?_
  refine o_p (p_loadEn (i := k) (T := tEntry) (L := s.entries) (vs := [Vi ((s.entries[k]).key), Vi ((s.entries[k]).value), Vi ((s.entries[k]).till)]) rfl (rd_outer (i := 5) rfl hs_0) (by first | assumption | omega) sh139 rfl) ?_
  refine o_alloc ze139 rfl (fun B8 => ?_)
  refine o_storeN (i := 0) (vs := [Vi ((s.entries[k]).key), Vi ((s.entries[k]).value), Vi ((s.entries[k]).till)]) (cs' := [Vi ((s.entries[k]).key), Vi ((s.entries[k]).value), Vi ((s.entries[k]).till)]) rfl rfl rfl sz139 rfl rfl rfl rfl ?_
  refine o_nil (q_then (c_seq (c_region ?_)))
  refine o_p (p_fieldAddr (j' := 2) rfl fo139_2 rfl) ?_
  refine o_p (p_load (i := 0) (v := Vi ((s.entries[k]).till)) rfl rfl sh3 rfl) ?_
  refine o_mv rfl rfl ?_
  refine o_p (p_gt rfl rfl) ?_
  refine o_nil (q_then ?_)
  refine c_cond rfl (fun hc9 => ?_) (fun hc9 => ?_)
  ·simp only [decide_eq_true_eq] at hc9
   refine c_region ?_
   refine o_p (p_fieldAddr (j' := 1) rfl fo86_1 rfl) ?_
   refine o_p (p_load (i := 3) (v := .slice aoc_0 oc.entries.length coc_0) rfl rfl sh84 rfl) ?_
   refine o_p (p_load_agg (i := 0) (vs := [Vi ((s.entries[k]).key), Vi ((s.entries[k]).value), Vi ((s.entries[k]).till)]) rfl rfl sh139 rfl rfl) ?_
   refine o_buildSlice (m := 1) (T := tEntry) (L := [(⟨(s.entries[k]).key, (s.entries[k]).value, (s.entries[k]).till⟩ : DEntry)]) (vs := [.agg #[Vi ((s.entries[k]).key), Vi ((s.entries[k]).value), Vi ((s.entries[k]).till)]]) rfl rfl rfl rfl Try.underlying84 sz139 (by decide) ze139 rfl (by decide) rfl (fun S10 a11 => ?_)
   refine o_append (i := 2) (L := oc.entries) (M := [(⟨(s.entries[k]).key, (s.entries[k]).value, (s.entries[k]).till⟩ : DEntry)]) (T := tEntry) rfl rfl rfl (rd_own (i := 0) rfl) Try.underlying84 Try.underlying84 (by intro k h; cases h) el139 (by intro z; simp [tEntry, one1]) (by decide) (by first | omega | (simp only [List.length_cons, List.length_nil]; omega) | (simp only [List.length_append, List.length_cons, List.length_nil, List.length_take, List.length_drop]; omega)) rfl (fun a13 c14 S15 => ?_)
   refine o_p (p_fieldAddr (j' := 1) rfl fo86_1 rfl) ?_
   refine o_store (i := 4) (v := .slice a13 (oc.entries ++ [(⟨(s.entries[k]).key, (s.entries[k]).value, (s.entries[k]).till⟩ : DEntry)]).length c14) (cs' := [Vi oc.life, .slice a13 (oc.entries ++ [(⟨(s.entries[k]).key, (s.entries[k]).value, (s.entries[k]).till⟩ : DEntry)]).length c14]) rfl rfl rfl sz84 rfl rfl rfl ?_
   refine o_nil ?_
   refine q_block_normal (q_then ?_)
   refine c_region ?_
   refine o_p (p_addb rfl rfl (by omega)) ?_
   refine o_mv rfl rfl ?_
   refine o_nil ?_
   refine q_round hK6 (gone, agone, cgone, Sgone, k + 1, (⟨oc.life, (oc.entries ++ [(⟨(s.entries[k]).key, (s.entries[k]).value, (s.entries[k]).till⟩ : DEntry)])⟩ : DStore), a13, c14, S15) ?_ ?_ ?_ ?_
   ·clear hK6
    first | exact hI.keep (by omega) (by assumption) | exact hI.drop (by omega) (by assumption)
   ·(try dsimp only); omega
   ·exact sr (sr (sr (sr (sr (sr (sr (Sub.nil _)))))))
   ·exact pk [2, 3, 4, 5, 6, 7]
  ·simp only [decide_eq_false_iff_not, Int.not_lt] at hc9
   refine c_region ?_
   refine o_mv rfl rfl ?_
   refine o_p (p_fieldAddr (j' := 0) rfl fo139_0 rfl) ?_
   refine o_p (p_load (i := 0) (v := Vi ((s.entries[k]).key)) rfl rfl sh3 rfl) ?_
   refine o_buildSlice (m := 1) (T := tInt) (L := [(s.entries[k]).key]) (vs := [Vi ((s.entries[k]).key)]) rfl rfl rfl rfl Try.underlying37 sz3 (by decide) ze3 rfl (by decide) rfl (fun S16 a17 => ?_)
   refine o_append (i := 3) (L := gone) (M := [(s.entries[k]).key]) (T := tInt) rfl rfl rfl (rd_own (i := 0) rfl) Try.underlying37 Try.underlying37 (by intro k h; cases h) el3 (by intro z; simp [tInt, one1]) (by decide) (by first | omega | (simp only [List.length_cons, List.length_nil]; omega) | (simp only [List.length_append, List.length_cons, List.length_nil, List.length_take, List.length_drop]; omega)) rfl (fun a19 c20 S21 => ?_)
   refine o_as rfl rfl ?_
   refine o_nil ?_
   refine q_block_normal (q_then ?_)
   refine c_region ?_
   refine o_p (p_addb rfl rfl (by omega)) ?_
   refine o_mv rfl rfl ?_
   refine o_nil ?_
   refine q_round hK6 ((gone ++ [(s.entries[k]).key]), a19, c20, S21, k + 1, oc, aoc_0, coc_0, Soc_0) ?_ ?_ ?_ ?_
   ·clear hK6
    first | exact hI.keep (by omega) (by assumption) | exact hI.drop (by omega) (by assumption)
   ·(try dsimp only); omega
   ·exact sr (sr (sr (sr (sr (sr (sr (Sub.nil _)))))))
   ·exact pk [2, 3, 4, 5, 6, 7]
 ·simp only [decide_eq_false_iff_not, Int.not_lt] at hc7
  refine c_exit ?_
  refine q_then_exit (q_then_exit (q_block_exit (q_then ?_)))
  refine c_seq (c_region ?_)
  refine o_p (p_load_agg (i := 2) (vs := [Vi oc.life, .slice aoc_0 oc.entries.length coc_0]) rfl rfl sh86 rfl rfl) ?_
  refine o_mv rfl rfl ?_
  refine o_storeN (i := 3) (vs := [Vi oc.life, .slice aoc_0 oc.entries.length coc_0]) (cs' := [Vi oc.life, .slice aoc_0 oc.entries.length coc_0]) rfl rfl rfl sz86 rfl rfl rfl rfl ?_
  refine o_as rfl rfl ?_
  refine o_nil (q_then (c_ret ?_))
  obtain ⟨hd1, hd2⟩ := hI.done (by omega)
  have hr0 : (oc.life : Int) = s.life := by
   first | exact hd2 | (rw [hd1]; done)
  have hr1 : (oc.entries : List DEntry) = Exp.live now s.entries := by
   first | exact hd2 | (rw [hd1]; done)
  have hr2 : (gone : List Int) = (Exp.over now s.entries) := by
   first | exact hd2 | (rw [hd1]; done)
  refine q_endX (p := (aoc_0, coc_0, Soc_0, agone, cgone, Sgone)) (rt2 rfl (r_cell (i := 3) rfl rfl sh86 rfl) (r_tmp rfl)) ?_ (fun w hw => ?_)
  ·exact (by have hcc := congr (congr (congrArg (fun (y0 : Int) (y1 : List DEntry) (y2 : List Int) => (.tuple #[.agg #[.int .i64 y0, .slice aoc_0 y1.length coc_0], .slice agone y2.length cgone] : Value)) hr0) hr1) hr2; exact hcc)
  ·have h2 := hw.pick (H' := [outer w0 [], own tEntry Soc_0 aoc_0 coc_0 oc.entries, own tInt Sgone agone cgone gone]) [5, 0, 1] (by decide) rfl
   exact Eq.mp (congrArg (fun z => HeapIs w0 ((outer w0 []) :: z) w) ((by have hcc := congr (congr (congrArg (fun (y0 : Int) (y1 : List DEntry) (y2 : List Int) => ([own tEntry Soc_0 aoc_0 coc_0 y1, own tInt Sgone agone cgone y2] : List Ent)) hr0) hr1) hr2; exact hcc))) h2

set_option maxHeartbeats 8000000 in
set_option maxRecDepth 100000 in
theorem enow_ok (s : DStore) (as_0 : Option Addr) (cs_0 : Nat) (now : Int) : Fn0 Try.prog 84 [.agg #[Vi s.life, .slice as_0 s.entries.length cs_0], Vi now] (fun w => Rd tEntry w as_0 cs_0 s.entries) (Vi (Exp.nowErr s now)) := by
 refine fn0 (nt := 16) (F0 := [(0, .agg #[Vi s.life, .slice as_0 s.entries.length cs_0]), (1, Vi now)]) Try.func84 rfl Try.ntmps84 rfl rfl (fun w0 hpre => ?_)
 have hs_0 := hpre
 have hlhs_0 := hs_0.2.1
 refine c_seq (c_region ?_)
 refine o_box (v := .agg #[Vi s.life, .slice as_0 s.entries.length cs_0]) rfl rfl (fun B1 => ?_)
 refine o_as rfl rfl ?_
 refine o_nil (q_then (c_seq (c_region ?_)))
 refine o_p (p_load_agg (i := 0) (vs := [Vi s.life, .slice as_0 s.entries.length cs_0]) rfl rfl sh86 rfl rfl) ?_
 refine o_call0 (v := Vi (Exp.check s)) rfl (echeck_ok s as_0 cs_0) hf90 (fun w hw => (rd_base (i := 1) rfl hs_0) w hw) rfl ?_
 refine o_as rfl rfl ?_
 refine o_nil (q_then (c_seq (c_seq (c_region ?_))))
 refine o_mv rfl rfl ?_
 refine o_p (p_eq rfl rfl) ?_
 refine o_mv rfl rfl ?_
 refine o_and (p := 14) 4 (!(Exp.okNow now)) ?_ ?_ ?_
 ·intro hb2 hk
  simp only [beq_iff_eq] at hb2
  refine o_unguard 10 rfl rfl ?_
  refine o_mv rfl rfl ?_
  refine o_unguard 10 rfl rfl ?_
  refine o_call0 (v := .bool (Exp.okNow now)) rfl (etick_ok now) hf130 (fun _ _ => trivial) rfl ?_
  refine o_unguard 10 rfl rfl ?_
  refine o_p (p_not (b := (Exp.okNow now)) rfl) ?_
  refine o_pt rfl rfl rfl ?_
  exact o_sub (sr (Sub.skip rfl (Sub.skip rfl (Sub.skip rfl (Sub.skip rfl (Sub.skip rfl (Sub.refl _))))))) hk
 ·intro hb2 hk
  refine o_guard_no rfl 10 rfl rfl rfl rfl rfl ?_
  refine o_guard_no rfl 10 rfl rfl rfl rfl rfl ?_
  refine o_guard_no rfl 10 rfl rfl rfl rfl rfl ?_
  refine o_pf rfl rfl rfl ?_
  exact o_sub (sr (Sub.skip rfl (Sub.skip rfl (Sub.skip rfl (Sub.skip rfl (Sub.skip rfl (Sub.refl _))))))) hk
 refine o_nil (q_then ?_)
 refine c_cond rfl (fun hc3 => ?_) (fun hc3 => ?_)
 ·simp only [Bool.and_eq_true, beq_iff_eq, Bool.not_eq_true'] at hc3
  refine c_region ?_
  refine o_as rfl rfl ?_
  refine o_nil (q_then (c_seq (c_region ?_)))
  refine o_mv rfl rfl ?_
  refine o_as rfl rfl ?_
  refine o_nil (q_then (c_ret ?_))
  have hr0 : (3 : Int) = (Exp.nowErr s now) := by
   rcases Exp.now_cases s now with ⟨a, b⟩ | ⟨a, b, d⟩ | ⟨a, b, d⟩ <;> first | (exfalso; omega) | (exfalso; simp_all; done) | omega | simp_all
  refine q_end0 (v := Vi 3) (rt1 rfl (r_tmp rfl)) (i := 1) rfl ?_
  exact (by have hcc := congrArg (fun (y0 : Int) => (.int .i64 y0 : Value)) hr0; exact hcc)
 ·simp only [Bool.and_eq_false_iff, beq_eq_false_iff_ne, ne_eq, Bool.not_eq_false'] at hc3
  have hro := hc3
  refine c_skip (q_then (c_seq (c_region ?_)))
  refine o_mv rfl rfl ?_
  refine o_as rfl rfl ?_
  refine o_nil (q_then (c_ret ?_))
  have hr0 : ((Exp.check s) : Int) = (Exp.nowErr s now) := by
   rcases Exp.now_cases s now with ⟨a, b⟩ | ⟨a, b, d⟩ | ⟨a, b, d⟩ <;> first | (exfalso; omega) | (exfalso; simp_all; done) | omega | simp_all
  refine q_end0 (v := Vi (Exp.check s)) (rt1 rfl (r_tmp rfl)) (i := 1) rfl ?_
  exact (by have hcc := congrArg (fun (y0 : Int) => (.int .i64 y0 : Value)) hr0; exact hcc)

set_option maxHeartbeats 8000000 in
set_option maxRecDepth 100000 in
theorem esweep_ok (s : DStore) (as_0 : Option Addr) (cs_0 : Nat) (now : Int) : FnM Try.prog 47 [.agg #[Vi s.life, .slice as_0 s.entries.length cs_0], Vi now] (fun w => Rd tEntry w as_0 cs_0 s.entries) (Option Addr × Nat × Option Addr × Nat) (fun p => .tuple #[.agg #[Vi (((Exp.sweep s now).1).life), .slice p.1 (((Exp.sweep s now).1).entries).length p.2.1], .slice p.2.2.1 ((Exp.sweep s now).2).length p.2.2.2, Vi (Exp.nowErr s now)]) (fun p S w => SlR tEntry S w p.1 p.2.1 (((Exp.sweep s now).1).entries) ∧ SlR tInt S w p.2.2.1 p.2.2.2 ((Exp.sweep s now).2)) := by
 refine fnM (nt := 25) (F0 := [(0, .agg #[Vi s.life, .slice as_0 s.entries.length cs_0]), (1, Vi now)]) Try.func47 rfl Try.ntmps47 rfl rfl (fun w0 hpre => ?_)
 have hs_0 := hpre
 have hlhs_0 := hs_0.2.1
 refine c_seq (c_region ?_)
 refine o_box (v := .agg #[Vi s.life, .slice as_0 s.entries.length cs_0]) rfl rfl (fun B1 => ?_)
 refine o_alloc ze86 rfl (fun B2 => ?_)
 refine o_as rfl rfl ?_
 refine o_as rfl rfl ?_
 refine o_nil (q_then (c_seq (c_seq (c_region ?_))))
 refine o_p (p_load_agg (i := 1) (vs := [Vi s.life, .slice as_0 s.entries.length cs_0]) rfl rfl sh86 rfl rfl) ?_
 refine o_mv rfl rfl ?_
 refine o_call0 (v := Vi (Exp.nowErr s now)) rfl (enow_ok s as_0 cs_0 now) hf84 (fun w hw => (rd_base (i := 2) rfl hs_0) w hw) rfl ?_
 refine o_as rfl rfl ?_
 refine o_nil (q_then (c_seq (c_region ?_)))
 refine o_mv rfl rfl ?_
 refine o_p (p_ne rfl rfl) ?_
 refine o_nil (q_then ?_)
 refine c_cond rfl (fun hc3 => ?_) (fun hc3 => ?_)
 ·simp only [bne_iff_ne, ne_eq] at hc3
  refine c_seq (c_region ?_)
  refine o_p (p_build (cells := [Vi 0, .slice none 0 0]) fp86 ze86 rfl rfl) ?_
  refine o_mv rfl rfl ?_
  refine o_storeN (i := 0) (vs := [Vi 0, .slice none 0 0]) (cs' := [Vi 0, .slice none 0 0]) rfl rfl rfl sz86 rfl rfl rfl rfl ?_
  refine o_as rfl rfl ?_
  refine o_as rfl rfl ?_
  refine o_nil (q_then (c_ret ?_))
  refine q_then_ret ?_
  have hs := by first | exact Exp.sweep1 (s := s) (now := now) (by assumption) | exact Exp.sweep2 (s := s) (now := now) (by assumption)
  have hr0 : (0 : Int) = ((Exp.sweep s now).1).life := by
   first | (rw [hs]; done) | (rw [hs]; rfl) | (symm; assumption) | rfl
  have hr1 : ([] : List DEntry) = ((Exp.sweep s now).1).entries := by
   first | (rw [hs]; done) | (rw [hs]; rfl) | (symm; assumption) | rfl
  have hr2 : ([] : List Int) = ((Exp.sweep s now).2) := by
   first | (rw [hs]; done) | (rw [hs]; rfl) | (symm; assumption) | rfl
  refine q_endM (p := (none, 0, none, 0)) (fun _ => False) (rt3 rfl (r_cell (i := 0) rfl rfl sh86 rfl) (r_tmp rfl) (r_tmp rfl)) (i := 2) rfl ?_ ?_ ?_
  ·exact (by have hcc := congr (congr (congrArg (fun (y0 : Int) (y1 : List DEntry) (y2 : List Int) => (.tuple #[.agg #[.int .i64 y0, .slice none y1.length 0], .slice none y2.length 0, Vi (Exp.nowErr s now)] : Value)) hr0) hr1) hr2; exact hcc)
  ·intro w hw b hb; exact hb.elim
  ·intro w hw; exact ⟨Eq.mp (congrArg (fun y => SlR tEntry _ w none 0 y) hr1) (SlR.nil tEntry _ w), Eq.mp (congrArg (fun y => SlR tInt _ w none 0 y) hr2) (SlR.nil tInt _ w)⟩
 ·simp only [bne_eq_false_iff_eq] at hc3
  have hok := (Exp.now_ok hc3).1
  have hlen := hok.len
  refine c_skip (q_then (c_seq (c_region ?_)))
  refine o_p (p_load_agg (i := 1) (vs := [Vi s.life, .slice as_0 s.entries.length cs_0]) rfl rfl sh86 rfl rfl) ?_
  refine o_mv rfl rfl ?_
  refine o_callX (pre := []) (R := [box B2 [Vi 0, .slice none 0 0] 86, box B1 [Vi s.life, .slice as_0 s.entries.length cs_0] 86, base w0]) rfl (eswept_ok s as_0 cs_0 now (by omega)) hf85 rfl (fun w hw => (rdX (i := 2) (js := []) rfl (by decide) rfl (fun _ hA => slR_base hs_0 hA)) w hw) rfl ?_
  rintro ⟨a4, c5, S6, a7, c8, S9⟩
  refine o_asH (H' := [own tEntry S6 a4 c5 (Exp.live now s.entries), own tInt S9 a7 c8 (Exp.over now s.entries), box B2 [Vi 0, .slice none 0 0] 86, box B1 [Vi s.life, .slice as_0 s.entries.length cs_0] 86, base w0]) rfl ?_
  refine o_mv rfl rfl ?_
  refine o_ex rfl rfl rfl ?_
  refine o_ex rfl rfl rfl ?_
  refine o_alloc ze86 rfl (fun B12 => ?_)
  refine o_storeN (i := 0) (vs := [Vi s.life, .slice a4 (Exp.live now s.entries).length c5]) (cs' := [Vi s.life, .slice a4 (Exp.live now s.entries).length c5]) rfl rfl rfl sz86 rfl rfl rfl rfl ?_
  refine o_as rfl rfl ?_
  refine o_nil (q_then (c_seq (c_region ?_)))
  refine o_p (p_load_agg (i := 0) (vs := [Vi s.life, .slice a4 (Exp.live now s.entries).length c5]) rfl rfl sh86 rfl rfl) ?_
  refine o_mv rfl rfl ?_
  refine o_storeN (i := 3) (vs := [Vi s.life, .slice a4 (Exp.live now s.entries).length c5]) (cs' := [Vi s.life, .slice a4 (Exp.live now s.entries).length c5]) rfl rfl rfl sz86 rfl rfl rfl rfl ?_
  refine o_as rfl rfl ?_
  refine o_as rfl rfl ?_
  refine o_nil (q_then (c_ret ?_))
  have hs := by first | exact Exp.sweep1 (s := s) (now := now) (by assumption) | exact Exp.sweep2 (s := s) (now := now) (by assumption)
  have hr0 : (s.life : Int) = ((Exp.sweep s now).1).life := by
   first | (rw [hs]; done) | (rw [hs]; rfl) | (symm; assumption) | rfl
  have hr1 : (Exp.live now s.entries : List DEntry) = ((Exp.sweep s now).1).entries := by
   first | (rw [hs]; done) | (rw [hs]; rfl) | (symm; assumption) | rfl
  have hr2 : ((Exp.over now s.entries) : List Int) = ((Exp.sweep s now).2) := by
   first | (rw [hs]; done) | (rw [hs]; rfl) | (symm; assumption) | rfl
  have hr3 : (0 : Int) = (Exp.nowErr s now) := by
   first | (rw [hs]; done) | (rw [hs]; rfl) | (symm; assumption) | rfl
  refine q_endM (p := (a4, c5, a7, c8)) (fun b => S6 b ∨ S9 b) (rt3 rfl (r_cell (i := 3) rfl rfl sh86 rfl) (r_tmp rfl) (r_tmp rfl)) (i := 5) rfl ?_ ?_ ?_
  ·exact (by have hcc := congr (congr (congr (congrArg (fun (y0 : Int) (y1 : List DEntry) (y2 : List Int) (y3 : Int) => (.tuple #[.agg #[.int .i64 y0, .slice a4 y1.length c5], .slice a7 y2.length c8, .int .i64 y3] : Value)) hr0) hr1) hr2) hr3; exact hcc)
  ·intro w hw b hb; rcases hb with hb | hb
   ·exact hw.above (i := 5) (j := 1) (by decide) rfl rfl b hb
   ·exact hw.above (i := 5) (j := 2) (by decide) rfl rfl b hb
  ·intro w hw; exact ⟨Eq.mp (congrArg (fun y => SlR tEntry _ w a4 c5 y) hr1) (SlR.mono (fun b hb => by simp [hb]) (SlO.toR (hw.at (i := 1) rfl).here)), Eq.mp (congrArg (fun y => SlR tInt _ w a7 c8 y) hr2) (SlR.mono (fun b hb => by simp [hb]) (SlO.toR (hw.at (i := 2) rfl).here))⟩
end Go.Proofs.Ytnmbkopnopaigaa

/- The walks, printed by a program from the translation and a specification. -/
namespace Go.Proofs.Ytnmbkopnopaigaa
open Go.Sx Go.RowKit
set_option maxHeartbeats 8000000 in
set_option maxRecDepth 100000 in
theorem eget_ok (s : DStore) (as_0 : Option Addr) (cs_0 : Nat) (key : Int) (now : Int) : Fn0 Try.prog 86 [.agg #[Vi s.life, .slice as_0 s.entries.length cs_0], Vi key, Vi now] (fun w => Rd tEntry w as_0 cs_0 s.entries) (.tuple #[Vi ((Exp.get s key now).1), .bool ((Exp.get s key now).2), Vi (Exp.getErr s key now)]) := by
 refine fn0 (nt := 49) (F0 := [(0, .agg #[Vi s.life, .slice as_0 s.entries.length cs_0]), (1, Vi key), (2, Vi now)]) Try.func86 rfl Try.ntmps86 rfl rfl (fun w0 hpre => ?_)
 have hs_0 := hpre
 have hlhs_0 := hs_0.2.1
 refine c_seq (c_region ?_)
 refine o_box (v := .agg #[Vi s.life, .slice as_0 s.entries.length cs_0]) rfl rfl (fun B1 => ?_)
 refine o_as rfl rfl ?_
 refine o_as rfl rfl ?_
 refine o_as rfl rfl ?_
 refine o_nil (q_then (c_seq (c_region ?_)))
 refine o_p (p_load_agg (i := 0) (vs := [Vi s.life, .slice as_0 s.entries.length cs_0]) rfl rfl sh86 rfl rfl) ?_
 refine o_mv rfl rfl ?_
 refine o_call0 (v := Vi (Exp.nowErr s now)) rfl (enow_ok s as_0 cs_0 now) hf84 (fun w hw => (rd_base (i := 1) rfl hs_0) w hw) rfl ?_
 refine o_as rfl rfl ?_
 refine o_nil (q_then (c_seq (c_seq (c_region ?_))))
 refine o_mv rfl rfl ?_
 refine o_p (p_eq rfl rfl) ?_
 refine o_mv rfl rfl ?_
 refine o_and (p := 21) 4 (!(Lru.okKey key)) ?_ ?_ ?_
 ·intro hb2 hk
  simp only [beq_iff_eq] at hb2
  refine o_unguard 17 rfl rfl ?_
  refine o_mv rfl rfl ?_
  refine o_unguard 17 rfl rfl ?_
  refine o_call0 (v := .bool (Lru.okKey key)) rfl (key_ok key) hf123 (fun _ _ => trivial) rfl ?_
  refine o_unguard 17 rfl rfl ?_
  refine o_p (p_not (b := (Lru.okKey key)) rfl) ?_
  refine o_pt rfl rfl rfl ?_
  exact o_sub (sr (Sub.skip rfl (Sub.skip rfl (Sub.skip rfl (Sub.skip rfl (Sub.skip rfl (Sub.refl _))))))) hk
 ·intro hb2 hk
  refine o_guard_no rfl 17 rfl rfl rfl rfl rfl ?_
  refine o_guard_no rfl 17 rfl rfl rfl rfl rfl ?_
  refine o_guard_no rfl 17 rfl rfl rfl rfl rfl ?_
  refine o_pf rfl rfl rfl ?_
  exact o_sub (sr (Sub.skip rfl (Sub.skip rfl (Sub.skip rfl (Sub.skip rfl (Sub.skip rfl (Sub.refl _))))))) hk
 refine o_nil (q_then ?_)
 refine c_cond rfl (fun hc3 => ?_) (fun hc3 => ?_)
 ·simp only [Bool.and_eq_true, beq_iff_eq, Bool.not_eq_true'] at hc3
  have hbad := hc3
  refine c_region ?_
  refine o_as rfl rfl ?_
  refine o_nil (q_then (c_seq (c_seq (c_region ?_))))
  refine o_mv rfl rfl ?_
  refine o_p (p_ne rfl rfl) ?_
  refine o_nil (q_then ?_)
  refine c_true rfl ?_
  refine c_seq (c_region ?_)
  refine o_mv rfl rfl ?_
  refine o_as rfl rfl ?_
  refine o_as rfl rfl ?_
  refine o_as rfl rfl ?_
  refine o_nil (q_then (c_ret ?_))
  refine q_then_ret ?_
  obtain ⟨hv1, hv2⟩ : _ ∧ _ := by first | exact Exp.ge2 (s := s) (key := key) (now := now) hbad.1 hbad.2 | exact Exp.ge1 (s := s) (key := key) (now := now) (by assumption) | exact Exp.ge4 hok hge (by assumption) | exact Exp.ge5 hok hge (by assumption)
  have hr0 : (0 : Int) = ((Exp.get s key now).1) := by
   first | (rw [hv1]; done) | (rw [hv1]; rfl) | (rw [hv2]; done) | exact hv2
  have hr1 : (false : Bool) = ((Exp.get s key now).2) := by
   first | (rw [hv1]; done) | (rw [hv1]; rfl) | (rw [hv2]; done) | exact hv2
  have hr2 : (3 : Int) = (Exp.getErr s key now) := by
   first | (rw [hv1]; done) | (rw [hv1]; rfl) | (rw [hv2]; done) | exact hv2
  refine q_end0 (v := .tuple #[Vi 0, .bool false, Vi 3]) (rt3 rfl (r_tmp rfl) (r_tmp rfl) (r_tmp rfl)) (i := 1) rfl ?_
  exact (by have hcc := congr (congr (congrArg (fun (y0 : Int) (y1 : Bool) (y2 : Int) => (.tuple #[.int .i64 y0, .bool y1, .int .i64 y2] : Value)) hr0) hr1) hr2; exact hcc)
 ·simp only [Bool.and_eq_false_iff, beq_eq_false_iff_ne, ne_eq, Bool.not_eq_false'] at hc3
  have hro := hc3
  refine c_skip (q_then (c_seq (c_seq (c_region ?_))))
  refine o_mv rfl rfl ?_
  refine o_p (p_ne rfl rfl) ?_
  refine o_nil (q_then ?_)
  refine c_cond rfl (fun hc4 => ?_) (fun hc4 => ?_)
  ·simp only [bne_iff_ne, ne_eq] at hc4
   refine c_seq (c_region ?_)
   refine o_mv rfl rfl ?_
   refine o_as rfl rfl ?_
   refine o_as rfl rfl ?_
   refine o_as rfl rfl ?_
   refine o_nil (q_then (c_ret ?_))
   refine q_then_ret ?_
   obtain ⟨hv1, hv2⟩ : _ ∧ _ := by first | exact Exp.ge2 (s := s) (key := key) (now := now) hbad.1 hbad.2 | exact Exp.ge1 (s := s) (key := key) (now := now) (by assumption) | exact Exp.ge4 hok hge (by assumption) | exact Exp.ge5 hok hge (by assumption)
   have hr0 : (0 : Int) = ((Exp.get s key now).1) := by
    first | (rw [hv1]; done) | (rw [hv1]; rfl) | (rw [hv2]; done) | exact hv2
   have hr1 : (false : Bool) = ((Exp.get s key now).2) := by
    first | (rw [hv1]; done) | (rw [hv1]; rfl) | (rw [hv2]; done) | exact hv2
   have hr2 : ((Exp.nowErr s now) : Int) = (Exp.getErr s key now) := by
    first | (rw [hv1]; done) | (rw [hv1]; rfl) | (rw [hv2]; done) | exact hv2
   refine q_end0 (v := .tuple #[Vi 0, .bool false, Vi (Exp.nowErr s now)]) (rt3 rfl (r_tmp rfl) (r_tmp rfl) (r_tmp rfl)) (i := 1) rfl ?_
   exact (by have hcc := congr (congr (congrArg (fun (y0 : Int) (y1 : Bool) (y2 : Int) => (.tuple #[.int .i64 y0, .bool y1, .int .i64 y2] : Value)) hr0) hr1) hr2; exact hcc)
  ·simp only [bne_eq_false_iff_eq] at hc4
   have hok := (Exp.now_ok hc4).1
   have hge : Exp.getErr s key now = 0 := Exp.ge3 hc4 (hro.resolve_left (fun h => h hc4))
   refine c_skip (q_then (c_seq (c_seq (c_region ?_))))
   refine o_p (p_fieldAddr (j' := 1) rfl fo86_1 rfl) ?_
   refine o_p (p_load (i := 0) (v := .slice as_0 s.entries.length cs_0) rfl rfl sh84 rfl) ?_
   refine o_mv rfl rfl ?_
   refine o_call0 (v := .tuple #[Vi (Exp.findAt s.entries key : Int), .bool (Exp.findIs s.entries key)]) rfl (efind_ok s.entries as_0 cs_0 key (by first | assumption | exact hok.sorted | exact hpk.2.1)) hf88 (fun w hw => (rd_base (i := 1) rfl hs_0) w hw) rfl ?_
   refine o_mv rfl rfl ?_
   refine o_ex rfl rfl rfl ?_
   refine o_ex rfl rfl rfl ?_
   refine o_as rfl rfl ?_
   refine o_as rfl rfl ?_
   refine o_nil (q_then (c_seq (c_region ?_)))
   refine o_mv rfl rfl ?_
   refine o_mv rfl rfl ?_
   refine o_and (p := 42) 9 (decide (now < (s.entries.getD ((Exp.findAt s.entries key : Int).toNat) default).till)) ?_ ?_ ?_
   ·intro hb5 hk
    skip
    refine o_unguard 33 rfl rfl ?_
    refine o_p (p_fieldAddr (j' := 1) rfl fo86_1 rfl) ?_
    refine o_unguard 33 rfl rfl ?_
    refine o_p (p_load (i := 0) (v := .slice as_0 s.entries.length cs_0) rfl rfl sh84 rfl) ?_
    refine o_unguard 33 rfl rfl ?_
    refine o_mv rfl rfl ?_
    refine o_unguard 33 rfl rfl ?_
    refine o_p (p_indexAddr (L := s.entries) (T := tEntry) (i := (Exp.findAt s.entries key : Int)) rfl rfl (rd_base (i := 1) rfl hs_0) Try.underlying84 sz139 (by first | omega | (obtain ⟨hq, _⟩ := Exp.findIs_iff.1 (show Exp.findIs s.entries key = true from (by first | assumption | exact And.left (by assumption))); omega)) (by first | omega | (obtain ⟨hq, _⟩ := Exp.findIs_iff.1 (show Exp.findIs s.entries key = true from (by first | assumption | exact And.left (by assumption))); omega))) ?_
    refine o_unguard 33 rfl rfl ?_
    refine o_p (p_fieldAddrE rfl fo139_2) ?_
    refine o_unguard 33 rfl rfl ?_
    refine o_p (p_loadF (i := (Exp.findAt s.entries key : Int).toNat) (j := 2) (T := tEntry) (L := s.entries) (v := Vi ((s.entries.getD ((Exp.findAt s.entries key : Int).toNat) default).till)) rfl (rd_base (i := 1) rfl hs_0) (by first | omega | (obtain ⟨hq, _⟩ := Exp.findIs_iff.1 (show Exp.findIs s.entries key = true from (by first | assumption | exact And.left (by assumption))); omega)) sh3 (congrArg (fun z => (tEntry.enc z)[2]?) (getd_at (by first | omega | (obtain ⟨hq, _⟩ := Exp.findIs_iff.1 (show Exp.findIs s.entries key = true from (by first | assumption | exact And.left (by assumption))); omega)) default))) ?_
    refine o_unguard 33 rfl rfl ?_
    refine o_mv rfl rfl ?_
    refine o_unguard 33 rfl rfl ?_
    refine o_p (p_gt rfl rfl) ?_
    refine o_pt rfl rfl rfl ?_
    exact o_sub (sr (Sub.skip rfl (Sub.skip rfl (Sub.skip rfl (Sub.skip rfl (Sub.skip rfl (Sub.skip rfl (Sub.skip rfl (Sub.skip rfl (Sub.skip rfl (Sub.skip rfl (Sub.refl _)))))))))))) hk
   ·intro hb5 hk
    refine o_guard_no rfl 33 rfl rfl rfl rfl rfl ?_
    refine o_guard_no rfl 33 rfl rfl rfl rfl rfl ?_
    refine o_guard_no rfl 33 rfl rfl rfl rfl rfl ?_
    refine o_guard_no rfl 33 rfl rfl rfl rfl rfl ?_
    refine o_guard_no rfl 33 rfl rfl rfl rfl rfl ?_
    refine o_guard_no rfl 33 rfl rfl rfl rfl rfl ?_
    refine o_guard_no rfl 33 rfl rfl rfl rfl rfl ?_
    refine o_guard_no rfl 33 rfl rfl rfl rfl rfl ?_
    refine o_pf rfl rfl rfl ?_
    exact o_sub (sr (Sub.skip rfl (Sub.skip rfl (Sub.skip rfl (Sub.skip rfl (Sub.skip rfl (Sub.skip rfl (Sub.skip rfl (Sub.skip rfl (Sub.skip rfl (Sub.skip rfl (Sub.refl _)))))))))))) hk
   refine o_nil (q_then ?_)
   refine c_cond rfl (fun hc6 => ?_) (fun hc6 => ?_)
   ·simp only [Bool.and_eq_true, decide_eq_true_eq] at hc6
    refine c_seq (c_region ?_)
    refine o_p (p_fieldAddr (j' := 1) rfl fo86_1 rfl) ?_
    refine o_p (p_load (i := 0) (v := .slice as_0 s.entries.length cs_0) rfl rfl sh84 rfl) ?_
    refine o_mv rfl rfl ?_
    refine o_p (p_indexAddr (L := s.entries) (T := tEntry) (i := (Exp.findAt s.entries key : Int)) rfl rfl (rd_base (i := 1) rfl hs_0) Try.underlying84 sz139 (by first | omega | (obtain ⟨hq, _⟩ := Exp.findIs_iff.1 (show Exp.findIs s.entries key = true from (by first | assumption | exact And.left (by assumption))); omega)) (by first | omega | (obtain ⟨hq, _⟩ := Exp.findIs_iff.1 (show Exp.findIs s.entries key = true from (by first | assumption | exact And.left (by assumption))); omega))) ?_
    refine o_p (p_fieldAddrE rfl fo139_1) ?_
    refine o_p (p_loadF (i := (Exp.findAt s.entries key : Int).toNat) (j := 1) (T := tEntry) (L := s.entries) (v := Vi ((s.entries.getD ((Exp.findAt s.entries key : Int).toNat) default).value)) rfl (rd_base (i := 1) rfl hs_0) (by first | omega | (obtain ⟨hq, _⟩ := Exp.findIs_iff.1 (show Exp.findIs s.entries key = true from (by first | assumption | exact And.left (by assumption))); omega)) sh3 (congrArg (fun z => (tEntry.enc z)[1]?) (getd_at (by first | omega | (obtain ⟨hq, _⟩ := Exp.findIs_iff.1 (show Exp.findIs s.entries key = true from (by first | assumption | exact And.left (by assumption))); omega)) default))) ?_
    refine o_as rfl rfl ?_
    refine o_as rfl rfl ?_
    refine o_as rfl rfl ?_
    refine o_nil (q_then (c_ret ?_))
    refine q_then_ret ?_
    obtain ⟨hv1, hv2⟩ : _ ∧ _ := by first | exact Exp.ge2 (s := s) (key := key) (now := now) hbad.1 hbad.2 | exact Exp.ge1 (s := s) (key := key) (now := now) (by assumption) | exact Exp.ge4 hok hge (by assumption) | exact Exp.ge5 hok hge (by assumption)
    have hr0 : ((s.entries.getD ((Exp.findAt s.entries key : Int).toNat) default).value : Int) = ((Exp.get s key now).1) := by
     first | (rw [hv1]; done) | (rw [hv1]; rfl) | (rw [hv2]; done) | exact hv2
    have hr1 : (true : Bool) = ((Exp.get s key now).2) := by
     first | (rw [hv1]; done) | (rw [hv1]; rfl) | (rw [hv2]; done) | exact hv2
    have hr2 : (0 : Int) = (Exp.getErr s key now) := by
     first | (rw [hv1]; done) | (rw [hv1]; rfl) | (rw [hv2]; done) | exact hv2
    refine q_end0 (v := .tuple #[Vi ((s.entries.getD ((Exp.findAt s.entries key : Int).toNat) default).value), .bool true, Vi 0]) (rt3 rfl (r_tmp rfl) (r_tmp rfl) (r_tmp rfl)) (i := 1) rfl ?_
    exact (by have hcc := congr (congr (congrArg (fun (y0 : Int) (y1 : Bool) (y2 : Int) => (.tuple #[.int .i64 y0, .bool y1, .int .i64 y2] : Value)) hr0) hr1) hr2; exact hcc)
   ·simp only [Bool.and_eq_false_iff, decide_eq_false_iff_not, Int.not_lt] at hc6
    refine c_skip (q_then (c_seq (c_region ?_)))
    refine o_as rfl rfl ?_
    refine o_as rfl rfl ?_
    refine o_as rfl rfl ?_
    refine o_nil (q_then (c_ret ?_))
    obtain ⟨hv1, hv2⟩ : _ ∧ _ := by first | exact Exp.ge2 (s := s) (key := key) (now := now) hbad.1 hbad.2 | exact Exp.ge1 (s := s) (key := key) (now := now) (by assumption) | exact Exp.ge4 hok hge (by assumption) | exact Exp.ge5 hok hge (by assumption)
    have hr0 : (0 : Int) = ((Exp.get s key now).1) := by
     first | (rw [hv1]; done) | (rw [hv1]; rfl) | (rw [hv2]; done) | exact hv2
    have hr1 : (false : Bool) = ((Exp.get s key now).2) := by
     first | (rw [hv1]; done) | (rw [hv1]; rfl) | (rw [hv2]; done) | exact hv2
    have hr2 : (0 : Int) = (Exp.getErr s key now) := by
     first | (rw [hv1]; done) | (rw [hv1]; rfl) | (rw [hv2]; done) | exact hv2
    refine q_end0 (v := .tuple #[Vi 0, .bool false, Vi 0]) (rt3 rfl (r_tmp rfl) (r_tmp rfl) (r_tmp rfl)) (i := 1) rfl ?_
    exact (by have hcc := congr (congr (congrArg (fun (y0 : Int) (y1 : Bool) (y2 : Int) => (.tuple #[.int .i64 y0, .bool y1, .int .i64 y2] : Value)) hr0) hr1) hr2; exact hcc)

set_option maxHeartbeats 8000000 in
set_option maxRecDepth 100000 in
theorem eput_ok (s : DStore) (as_0 : Option Addr) (cs_0 : Nat) (key : Int) (n : Int) (now : Int) : FnM Try.prog 49 [.agg #[Vi s.life, .slice as_0 s.entries.length cs_0], Vi key, Vi n, Vi now] (fun w => Rd tEntry w as_0 cs_0 s.entries) (Option Addr × Nat) (fun p => .tuple #[.agg #[Vi ((Exp.put s key n now).life), .slice p.1 ((Exp.put s key n now).entries).length p.2], Vi (Exp.putErr s key n now)]) (fun p S w => SlO tEntry S w p.1 p.2 ((Exp.put s key n now).entries)) := by
 refine fnM (nt := 78) (F0 := [(0, .agg #[Vi s.life, .slice as_0 s.entries.length cs_0]), (1, Vi key), (2, Vi n), (3, Vi now)]) Try.func49 rfl Try.ntmps49 rfl rfl (fun w0 hpre => ?_)
 have hs_0 := hpre
 have hlhs_0 := hs_0.2.1
 refine c_seq (c_region ?_)
 refine o_box (v := .agg #[Vi s.life, .slice as_0 s.entries.length cs_0]) rfl rfl (fun B1 => ?_)
 refine o_alloc ze86 rfl (fun B2 => ?_)
 refine o_as rfl rfl ?_
 refine o_nil (q_then (c_seq (c_region ?_)))
 refine o_p (p_load_agg (i := 1) (vs := [Vi s.life, .slice as_0 s.entries.length cs_0]) rfl rfl sh86 rfl rfl) ?_
 refine o_mv rfl rfl ?_
 refine o_mv rfl rfl ?_
 refine o_call0 (v := .tuple #[Vi ((Exp.get s key now).1), .bool ((Exp.get s key now).2), Vi (Exp.getErr s key now)]) rfl (eget_ok s as_0 cs_0 key now) hf86 (fun w hw => (rd_base (i := 2) rfl hs_0) w hw) rfl ?_
 refine o_mv rfl rfl ?_
 refine o_ex rfl rfl rfl ?_
 refine o_ex rfl rfl rfl ?_
 refine o_ex rfl rfl rfl ?_
 refine o_as rfl rfl ?_
 refine o_as rfl rfl ?_
 refine o_as rfl rfl ?_
 refine o_nil (q_then (c_seq (c_seq (c_region ?_))))
 refine o_mv rfl rfl ?_
 refine o_p (p_eq rfl rfl) ?_
 refine o_mv rfl rfl ?_
 refine o_and (p := 32) 4 (!(Exp.okValue n)) ?_ ?_ ?_
 ·intro hb3 hk
  simp only [beq_iff_eq] at hb3
  refine o_unguard 28 rfl rfl ?_
  refine o_mv rfl rfl ?_
  refine o_unguard 28 rfl rfl ?_
  refine o_call0 (v := .bool (Exp.okValue n)) rfl (evalue_ok n) hf87 (fun _ _ => trivial) rfl ?_
  refine o_unguard 28 rfl rfl ?_
  refine o_p (p_not (b := (Exp.okValue n)) rfl) ?_
  refine o_pt rfl rfl rfl ?_
  exact o_sub (sr (Sub.skip rfl (Sub.skip rfl (Sub.skip rfl (Sub.skip rfl (Sub.skip rfl (Sub.refl _))))))) hk
 ·intro hb3 hk
  refine o_guard_no rfl 28 rfl rfl rfl rfl rfl ?_
  refine o_guard_no rfl 28 rfl rfl rfl rfl rfl ?_
  refine o_guard_no rfl 28 rfl rfl rfl rfl rfl ?_
  refine o_pf rfl rfl rfl ?_
  exact o_sub (sr (Sub.skip rfl (Sub.skip rfl (Sub.skip rfl (Sub.skip rfl (Sub.skip rfl (Sub.refl _))))))) hk
 refine o_nil (q_then ?_)
 refine c_cond rfl (fun hc4 => ?_) (fun hc4 => ?_)
 ·simp only [Bool.and_eq_true, beq_iff_eq, Bool.not_eq_true'] at hc4
  have hbad := hc4
  refine c_region ?_
  refine o_as rfl rfl ?_
  refine o_nil (q_then (c_seq (c_seq (c_region ?_))))
  refine o_mv rfl rfl ?_
  refine o_p (p_ne rfl rfl) ?_
  refine o_nil (q_then ?_)
  refine c_true rfl ?_
  refine c_seq (c_region ?_)
  refine o_p (p_build (cells := [Vi 0, .slice none 0 0]) fp86 ze86 rfl rfl) ?_
  refine o_mv rfl rfl ?_
  refine o_storeN (i := 0) (vs := [Vi 0, .slice none 0 0]) (cs' := [Vi 0, .slice none 0 0]) rfl rfl rfl sz86 rfl rfl rfl rfl ?_
  refine o_as rfl rfl ?_
  refine o_nil (q_then (c_ret ?_))
  refine q_then_ret ?_
  obtain ⟨hv1, hv2⟩ : _ ∧ _ := by first | exact Exp.pe1 (s := s) (key := key) (n := n) (now := now) (by assumption) | exact Exp.pe2 (s := s) (key := key) (n := n) (now := now) hbad.1 hbad.2 | exact Exp.set_put hge hvo hfi rfl | exact Exp.full_put hge hvo hfi (by assumption) | exact Exp.ins_put hge hvo hfi (by assumption) rfl
  have hr0 : (0 : Int) = (Exp.put s key n now).life := by
   first | exact hv2 | (rw [← hv1]; done) | (rw [← hv1]; rfl)
  have hr1 : ([] : List DEntry) = (Exp.put s key n now).entries := by
   first | exact hv2 | (rw [← hv1]; done) | (rw [← hv1]; rfl)
  have hr2 : (3 : Int) = (Exp.putErr s key n now) := by
   first | exact hv2 | (rw [← hv1]; done) | (rw [← hv1]; rfl)
  refine q_endM (p := (none, 0)) (fun _ => False) (rt2 rfl (r_cell (i := 0) rfl rfl sh86 rfl) (r_tmp rfl)) (i := 2) rfl ?_ ?_ ?_
  ·exact (by have hcc := congr (congr (congrArg (fun (y0 : Int) (y1 : List DEntry) (y2 : Int) => (.tuple #[.agg #[.int .i64 y0, .slice none y1.length 0], .int .i64 y2] : Value)) hr0) hr1) hr2; exact hcc)
  ·intro w hw b hb; exact hb.elim
  ·intro w hw; exact Eq.mp (congrArg (fun y => SlO tEntry _ w none 0 y) hr1) (SlO.nil tEntry w)
 ·simp only [Bool.and_eq_false_iff, beq_eq_false_iff_ne, ne_eq, Bool.not_eq_false'] at hc4
  have hro := hc4
  refine c_skip (q_then (c_seq (c_seq (c_region ?_))))
  refine o_mv rfl rfl ?_
  refine o_p (p_ne rfl rfl) ?_
  refine o_nil (q_then ?_)
  refine c_cond rfl (fun hc5 => ?_) (fun hc5 => ?_)
  ·simp only [bne_iff_ne, ne_eq] at hc5
   refine c_seq (c_region ?_)
   refine o_p (p_build (cells := [Vi 0, .slice none 0 0]) fp86 ze86 rfl rfl) ?_
   refine o_mv rfl rfl ?_
   refine o_storeN (i := 0) (vs := [Vi 0, .slice none 0 0]) (cs' := [Vi 0, .slice none 0 0]) rfl rfl rfl sz86 rfl rfl rfl rfl ?_
   refine o_as rfl rfl ?_
   refine o_nil (q_then (c_ret ?_))
   refine q_then_ret ?_
   obtain ⟨hv1, hv2⟩ : _ ∧ _ := by first | exact Exp.pe1 (s := s) (key := key) (n := n) (now := now) (by assumption) | exact Exp.pe2 (s := s) (key := key) (n := n) (now := now) hbad.1 hbad.2 | exact Exp.set_put hge hvo hfi rfl | exact Exp.full_put hge hvo hfi (by assumption) | exact Exp.ins_put hge hvo hfi (by assumption) rfl
   have hr0 : (0 : Int) = (Exp.put s key n now).life := by
    first | exact hv2 | (rw [← hv1]; done) | (rw [← hv1]; rfl)
   have hr1 : ([] : List DEntry) = (Exp.put s key n now).entries := by
    first | exact hv2 | (rw [← hv1]; done) | (rw [← hv1]; rfl)
   have hr2 : ((Exp.getErr s key now) : Int) = (Exp.putErr s key n now) := by
    first | exact hv2 | (rw [← hv1]; done) | (rw [← hv1]; rfl)
   refine q_endM (p := (none, 0)) (fun _ => False) (rt2 rfl (r_cell (i := 0) rfl rfl sh86 rfl) (r_tmp rfl)) (i := 2) rfl ?_ ?_ ?_
   ·exact (by have hcc := congr (congr (congrArg (fun (y0 : Int) (y1 : List DEntry) (y2 : Int) => (.tuple #[.agg #[.int .i64 y0, .slice none y1.length 0], .int .i64 y2] : Value)) hr0) hr1) hr2; exact hcc)
   ·intro w hw b hb; exact hb.elim
   ·intro w hw; exact Eq.mp (congrArg (fun y => SlO tEntry _ w none 0 y) hr1) (SlO.nil tEntry w)
  ·simp only [bne_eq_false_iff_eq] at hc5
   have hge := hc5
   have hpk := Exp.pok hge
   have hvo := hro.resolve_left (fun h => h hge)
   have hsl := Exp.live_len s now
   have hlen := hpk.1.len
   refine c_skip (q_then (c_seq (c_region ?_)))
   refine o_p (p_load_agg (i := 1) (vs := [Vi s.life, .slice as_0 s.entries.length cs_0]) rfl rfl sh86 rfl rfl) ?_
   refine o_mv rfl rfl ?_
   refine o_callX (pre := []) (R := [box B2 [Vi 0, .slice none 0 0] 86, box B1 [Vi s.life, .slice as_0 s.entries.length cs_0] 86, base w0]) rfl (eswept_ok s as_0 cs_0 now (by omega)) hf85 rfl (fun w hw => (rdX (i := 2) (js := []) rfl (by decide) rfl (fun _ hA => slR_base hs_0 hA)) w hw) rfl ?_
   rintro ⟨a6, c7, S8, a9, c10, S11⟩
   refine o_asH (H' := [own tEntry S8 a6 c7 (Exp.live now s.entries), own tInt S11 a9 c10 (Exp.over now s.entries), box B2 [Vi 0, .slice none 0 0] 86, box B1 [Vi s.life, .slice as_0 s.entries.length cs_0] 86, base w0]) rfl ?_
   refine o_mv rfl rfl ?_
   refine o_ex rfl rfl rfl ?_
   refine o_ex rfl rfl rfl ?_
   refine o_alloc ze86 rfl (fun B14 => ?_)
   refine o_storeN (i := 0) (vs := [Vi s.life, .slice a6 (Exp.live now s.entries).length c7]) (cs' := [Vi s.life, .slice a6 (Exp.live now s.entries).length c7]) rfl rfl rfl sz86 rfl rfl rfl rfl ?_
   refine o_as rfl rfl ?_
   refine o_nil (q_then (c_seq (c_region ?_)))
   refine o_mv rfl rfl ?_
   refine o_mv rfl rfl ?_
   refine o_mv rfl rfl ?_
   refine o_p (p_fieldAddr (j' := 0) rfl fo86_0 rfl) ?_
   refine o_p (p_load (i := 4) (v := Vi s.life) rfl rfl sh3 rfl) ?_
   refine o_p (p_addb rfl rfl (by omega)) ?_
   refine o_p (p_build (cells := [Vi key, Vi n, Vi (now + s.life)]) fp139 ze139 rfl rfl) ?_
   refine o_alloc ze139 rfl (fun B15 => ?_)
   refine o_storeN (i := 0) (vs := [Vi key, Vi n, Vi (now + s.life)]) (cs' := [Vi key, Vi n, Vi (now + s.life)]) rfl rfl rfl sz139 rfl rfl rfl rfl ?_
   refine o_nil (q_then (c_seq (c_seq (c_region ?_))))
   refine o_p (p_fieldAddr (j' := 1) rfl fo86_1 rfl) ?_
   refine o_p (p_load (i := 1) (v := .slice a6 (Exp.live now s.entries).length c7) rfl rfl sh84 rfl) ?_
   refine o_mv rfl rfl ?_
   refine o_call0 (v := .tuple #[Vi (Exp.findAt (Exp.live now s.entries) key : Int), .bool (Exp.findIs (Exp.live now s.entries) key)]) rfl (efind_ok (Exp.live now s.entries) a6 c7 key (by first | assumption | exact hok.sorted | exact hpk.2.1)) hf88 (fun w hw => (rd_own (i := 2) rfl) w hw) rfl ?_
   refine o_mv rfl rfl ?_
   refine o_ex rfl rfl rfl ?_
   refine o_ex rfl rfl rfl ?_
   refine o_as rfl rfl ?_
   refine o_as rfl rfl ?_
   refine o_nil (q_then (c_block (c_seq (c_region ?_))))
   refine o_mv rfl rfl ?_
   refine o_as rfl rfl ?_
   refine o_nil (q_then ?_)
   refine c_cond rfl (fun hc16 => ?_) (fun hc16 => ?_)
   ·skip
    have hfi := hc16
    obtain ⟨hfl, hfe⟩ := Exp.findIs_iff.1 hfi
    refine c_region ?_
    refine o_p (p_fieldAddr (j' := 1) rfl fo86_1 rfl) ?_
    refine o_p (p_load (i := 1) (v := .slice a6 (Exp.live now s.entries).length c7) rfl rfl sh84 rfl) ?_
    refine o_mv rfl rfl ?_
    refine o_p (p_load_agg (i := 0) (vs := [Vi key, Vi n, Vi (now + s.life)]) rfl rfl sh139 rfl rfl) ?_
    refine o_p (p_indexAddr (L := Exp.live now s.entries) (T := tEntry) (i := (Exp.findAt (Exp.live now s.entries) key : Int)) rfl rfl (rd_own (i := 2) rfl) Try.underlying84 sz139 (by omega) (by omega)) ?_
    refine o_storeW (i := 2) (T := tEntry) (idx := (Exp.findAt (Exp.live now s.entries) key : Int).toNat) (v := .agg #[Vi key, Vi n, Vi (now + s.life)]) (vs := [Vi key, Vi n, Vi (now + s.life)]) (z := (⟨key, n, (now + s.life)⟩ : DEntry)) (F' := [(8, .pointer (some ⟨B2, 0, none⟩)), (13, .pointer (some ⟨B14, 0, none⟩))]) rfl rfl rfl rfl (by first | assumption | omega | (simp only [List.length_set]; omega)) sz139 rfl rfl rfl rfl (sr (sr (Sub.nil _))) ?_
    refine o_asH (H := [box B15 [Vi key, Vi n, Vi (now + s.life)] 139, box B14 [Vi s.life, .slice a6 (Exp.live now s.entries).length c7] 86, own tEntry S8 a6 c7 ((Exp.live now s.entries).set ((Exp.findAt (Exp.live now s.entries) key : Int).toNat) (⟨key, n, (now + s.life)⟩ : DEntry)), own tInt S11 a9 c10 (Exp.over now s.entries), box B2 [Vi 0, .slice none 0 0] 86, box B1 [Vi s.life, .slice as_0 s.entries.length cs_0] 86, base w0]) (H' := [box B15 [Vi key, Vi n, Vi (now + s.life)] 139, box B14 [Vi s.life, .slice a6 ((Exp.live now s.entries).set ((Exp.findAt (Exp.live now s.entries) key : Int).toNat) (⟨key, n, (now + s.life)⟩ : DEntry)).length c7] 86, own tEntry S8 a6 c7 ((Exp.live now s.entries).set ((Exp.findAt (Exp.live now s.entries) key : Int).toNat) (⟨key, n, (now + s.life)⟩ : DEntry)), own tInt S11 a9 c10 (Exp.over now s.entries), box B2 [Vi 0, .slice none 0 0] 86, box B1 [Vi s.life, .slice as_0 s.entries.length cs_0] 86, base w0]) (by simp only [List.length_set]) ?_
    refine o_nil ?_
    refine q_block_normal (q_then ?_)
    refine c_seq (c_region ?_)
    refine o_p (p_load_agg (i := 1) (vs := [Vi s.life, .slice a6 ((Exp.live now s.entries).set ((Exp.findAt (Exp.live now s.entries) key : Int).toNat) (⟨key, n, (now + s.life)⟩ : DEntry)).length c7]) rfl rfl sh86 rfl rfl) ?_
    refine o_storeN (i := 4) (vs := [Vi s.life, .slice a6 ((Exp.live now s.entries).set ((Exp.findAt (Exp.live now s.entries) key : Int).toNat) (⟨key, n, (now + s.life)⟩ : DEntry)).length c7]) (cs' := [Vi s.life, .slice a6 ((Exp.live now s.entries).set ((Exp.findAt (Exp.live now s.entries) key : Int).toNat) (⟨key, n, (now + s.life)⟩ : DEntry)).length c7]) rfl rfl rfl sz86 rfl rfl rfl rfl ?_
    refine o_as rfl rfl ?_
    refine o_nil (q_then (c_ret ?_))
    obtain ⟨hv1, hv2⟩ : _ ∧ _ := by first | exact Exp.pe1 (s := s) (key := key) (n := n) (now := now) (by assumption) | exact Exp.pe2 (s := s) (key := key) (n := n) (now := now) hbad.1 hbad.2 | exact Exp.set_put hge hvo hfi rfl | exact Exp.full_put hge hvo hfi (by assumption) | exact Exp.ins_put hge hvo hfi (by assumption) rfl
    have hr0 : (s.life : Int) = (Exp.put s key n now).life := by
     first | exact hv2 | (rw [← hv1]; done) | (rw [← hv1]; rfl)
    have hr1 : (((Exp.live now s.entries).set ((Exp.findAt (Exp.live now s.entries) key : Int).toNat) (⟨key, n, (now + s.life)⟩ : DEntry)) : List DEntry) = (Exp.put s key n now).entries := by
     first | exact hv2 | (rw [← hv1]; done) | (rw [← hv1]; rfl)
    have hr2 : (0 : Int) = (Exp.putErr s key n now) := by
     first | exact hv2 | (rw [← hv1]; done) | (rw [← hv1]; rfl)
    refine q_endM (p := (a6, c7)) S8 (rt2 rfl (r_cell (i := 4) rfl rfl sh86 rfl) (r_tmp rfl)) (i := 6) rfl ?_ ?_ ?_
    ·exact (by have hcc := congr (congr (congrArg (fun (y0 : Int) (y1 : List DEntry) (y2 : Int) => (.tuple #[.agg #[.int .i64 y0, .slice a6 y1.length c7], .int .i64 y2] : Value)) hr0) hr1) hr2; exact hcc)
    ·exact fun w hw => hw.above (i := 6) (j := 2) (by decide) rfl rfl
    ·intro w hw; exact Eq.mp (congrArg (fun y => SlO tEntry _ w a6 c7 y) hr1) ((hw.at (i := 2) rfl).here)
   ·skip
    have hfi := hc16
    have hfle := Exp.findAt_le (Exp.live now s.entries) key
    refine c_seq (c_region ?_)
    refine o_p (p_fieldAddr (j' := 1) rfl fo86_1 rfl) ?_
    refine o_p (p_load (i := 1) (v := .slice a6 (Exp.live now s.entries).length c7) rfl rfl sh84 rfl) ?_
    refine o_p (p_len_slice rfl rfl Try.underlying84) ?_
    refine o_p (p_eq rfl rfl) ?_
    refine o_as rfl rfl ?_
    refine o_nil (q_then ?_)
    refine c_cond rfl (fun hc17 => ?_) (fun hc17 => ?_)
    ·simp only [beq_iff_eq] at hc17
     refine c_seq (c_region ?_)
     refine o_p (p_build (cells := [Vi 0, .slice none 0 0]) fp86 ze86 rfl rfl) ?_
     refine o_storeN (i := 4) (vs := [Vi 0, .slice none 0 0]) (cs' := [Vi 0, .slice none 0 0]) rfl rfl rfl sz86 rfl rfl rfl rfl ?_
     refine o_as rfl rfl ?_
     refine o_nil (q_then (c_ret ?_))
     refine q_block_ret (q_then_ret ?_)
     obtain ⟨hv1, hv2⟩ : _ ∧ _ := by first | exact Exp.pe1 (s := s) (key := key) (n := n) (now := now) (by assumption) | exact Exp.pe2 (s := s) (key := key) (n := n) (now := now) hbad.1 hbad.2 | exact Exp.set_put hge hvo hfi rfl | exact Exp.full_put hge hvo hfi (by assumption) | exact Exp.ins_put hge hvo hfi (by assumption) rfl
     have hr0 : (0 : Int) = (Exp.put s key n now).life := by
      first | exact hv2 | (rw [← hv1]; done) | (rw [← hv1]; rfl)
     have hr1 : ([] : List DEntry) = (Exp.put s key n now).entries := by
      first | exact hv2 | (rw [← hv1]; done) | (rw [← hv1]; rfl)
     have hr2 : (8 : Int) = (Exp.putErr s key n now) := by
      first | exact hv2 | (rw [← hv1]; done) | (rw [← hv1]; rfl)
     refine q_endM (p := (none, 0)) (fun _ => False) (rt2 rfl (r_cell (i := 4) rfl rfl sh86 rfl) (r_tmp rfl)) (i := 6) rfl ?_ ?_ ?_
     ·exact (by have hcc := congr (congr (congrArg (fun (y0 : Int) (y1 : List DEntry) (y2 : Int) => (.tuple #[.agg #[.int .i64 y0, .slice none y1.length 0], .int .i64 y2] : Value)) hr0) hr1) hr2; exact hcc)
     ·intro w hw b hb; exact hb.elim
     ·intro w hw; exact Eq.mp (congrArg (fun y => SlO tEntry _ w none 0 y) hr1) (SlO.nil tEntry w)
    ·simp only [beq_eq_false_iff_ne, ne_eq] at hc17
     refine c_region ?_
     refine o_p (p_fieldAddr (j' := 1) rfl fo86_1 rfl) ?_
     refine o_p (p_load (i := 1) (v := .slice a6 (Exp.live now s.entries).length c7) rfl rfl sh84 rfl) ?_
     refine o_mv rfl rfl ?_
     refine o_p (p_load_agg (i := 0) (vs := [Vi key, Vi n, Vi (now + s.life)]) rfl rfl sh139 rfl rfl) ?_
     refine o_buildSlice (m := 1) (T := tEntry) (L := [(⟨key, n, (now + s.life)⟩ : DEntry)]) (vs := [.agg #[Vi key, Vi n, Vi (now + s.life)]]) rfl rfl rfl rfl Try.underlying84 sz139 (by decide) ze139 rfl (by decide) rfl (fun S18 a19 => ?_)
     refine o_pick (H' := [own tEntry S8 a6 c7 (Exp.live now s.entries), own tEntry S18 a19 ([(⟨key, n, (now + s.life)⟩ : DEntry)].length) ([(⟨key, n, (now + s.life)⟩ : DEntry)]), box B15 [Vi key, Vi n, Vi (now + s.life)] 139, box B14 [Vi s.life, .slice a6 (Exp.live now s.entries).length c7] 86, own tInt S11 a9 c10 (Exp.over now s.entries), box B2 [Vi 0, .slice none 0 0] 86, box B1 [Vi s.life, .slice as_0 s.entries.length cs_0] 86, base w0]) [3, 0, 1, 2, 4, 5, 6, 7] (by decide) rfl ?_
     refine o_callX (pre := [own tEntry S8 a6 c7 (Exp.live now s.entries), own tEntry S18 a19 ([(⟨key, n, (now + s.life)⟩ : DEntry)].length) ([(⟨key, n, (now + s.life)⟩ : DEntry)])]) (R := [box B15 [Vi key, Vi n, Vi (now + s.life)] 139, box B14 [Vi s.life, .slice a6 (Exp.live now s.entries).length c7] 86, own tInt S11 a9 c10 (Exp.over now s.entries), box B2 [Vi 0, .slice none 0 0] 86, box B1 [Vi s.life, .slice as_0 s.entries.length cs_0] 86, base w0]) rfl (insert_Entry_ok (Exp.live now s.entries) a6 c7 S8 (Exp.findAt (Exp.live now s.entries) key : Int) ([(⟨key, n, (now + s.life)⟩ : DEntry)]) a19 ([(⟨key, n, (now + s.life)⟩ : DEntry)].length) S18 (by (try simp only [List.length_cons, List.length_nil, List.length_append, List.length_take, List.length_drop, and_true]); omega)) hf89 rfl (fun _ _ => trivial) rfl ?_
     rintro ⟨a21, c22, S23⟩
     refine o_asH (H' := [own tEntry S23 a21 c22 ((Exp.live now s.entries).take (Exp.findAt (Exp.live now s.entries) key : Int).toNat ++ ([(⟨key, n, (now + s.life)⟩ : DEntry)]) ++ (Exp.live now s.entries).drop (Exp.findAt (Exp.live now s.entries) key : Int).toNat), box B15 [Vi key, Vi n, Vi (now + s.life)] 139, box B14 [Vi s.life, .slice a6 (Exp.live now s.entries).length c7] 86, own tInt S11 a9 c10 (Exp.over now s.entries), box B2 [Vi 0, .slice none 0 0] 86, box B1 [Vi s.life, .slice as_0 s.entries.length cs_0] 86, base w0]) rfl ?_
     refine o_p (p_fieldAddr (j' := 1) rfl fo86_1 rfl) ?_
     refine o_store (i := 2) (v := .slice a21 ((Exp.live now s.entries).take (Exp.findAt (Exp.live now s.entries) key : Int).toNat ++ ([(⟨key, n, (now + s.life)⟩ : DEntry)]) ++ (Exp.live now s.entries).drop (Exp.findAt (Exp.live now s.entries) key : Int).toNat).length c22) (cs' := [Vi s.life, .slice a21 ((Exp.live now s.entries).take (Exp.findAt (Exp.live now s.entries) key : Int).toNat ++ ([(⟨key, n, (now + s.life)⟩ : DEntry)]) ++ (Exp.live now s.entries).drop (Exp.findAt (Exp.live now s.entries) key : Int).toNat).length c22]) rfl rfl rfl sz84 rfl rfl rfl ?_
     refine o_nil ?_
     refine q_block_normal (q_then ?_)
     refine c_seq (c_region ?_)
     refine o_p (p_load_agg (i := 2) (vs := [Vi s.life, .slice a21 ((Exp.live now s.entries).take (Exp.findAt (Exp.live now s.entries) key : Int).toNat ++ ([(⟨key, n, (now + s.life)⟩ : DEntry)]) ++ (Exp.live now s.entries).drop (Exp.findAt (Exp.live now s.entries) key : Int).toNat).length c22]) rfl rfl sh86 rfl rfl) ?_
     refine o_storeN (i := 4) (vs := [Vi s.life, .slice a21 ((Exp.live now s.entries).take (Exp.findAt (Exp.live now s.entries) key : Int).toNat ++ ([(⟨key, n, (now + s.life)⟩ : DEntry)]) ++ (Exp.live now s.entries).drop (Exp.findAt (Exp.live now s.entries) key : Int).toNat).length c22]) (cs' := [Vi s.life, .slice a21 ((Exp.live now s.entries).take (Exp.findAt (Exp.live now s.entries) key : Int).toNat ++ ([(⟨key, n, (now + s.life)⟩ : DEntry)]) ++ (Exp.live now s.entries).drop (Exp.findAt (Exp.live now s.entries) key : Int).toNat).length c22]) rfl rfl rfl sz86 rfl rfl rfl rfl ?_
     refine o_as rfl rfl ?_
     refine o_nil (q_then (c_ret ?_))
     obtain ⟨hv1, hv2⟩ : _ ∧ _ := by first | exact Exp.pe1 (s := s) (key := key) (n := n) (now := now) (by assumption) | exact Exp.pe2 (s := s) (key := key) (n := n) (now := now) hbad.1 hbad.2 | exact Exp.set_put hge hvo hfi rfl | exact Exp.full_put hge hvo hfi (by assumption) | exact Exp.ins_put hge hvo hfi (by assumption) rfl
     have hr0 : (s.life : Int) = (Exp.put s key n now).life := by
      first | exact hv2 | (rw [← hv1]; done) | (rw [← hv1]; rfl)
     have hr1 : (((Exp.live now s.entries).take (Exp.findAt (Exp.live now s.entries) key : Int).toNat ++ ([(⟨key, n, (now + s.life)⟩ : DEntry)]) ++ (Exp.live now s.entries).drop (Exp.findAt (Exp.live now s.entries) key : Int).toNat) : List DEntry) = (Exp.put s key n now).entries := by
      first | exact hv2 | (rw [← hv1]; done) | (rw [← hv1]; rfl)
     have hr2 : (0 : Int) = (Exp.putErr s key n now) := by
      first | exact hv2 | (rw [← hv1]; done) | (rw [← hv1]; rfl)
     refine q_endM (p := (a21, c22)) S23 (rt2 rfl (r_cell (i := 4) rfl rfl sh86 rfl) (r_tmp rfl)) (i := 6) rfl ?_ ?_ ?_
     ·exact (by have hcc := congr (congr (congrArg (fun (y0 : Int) (y1 : List DEntry) (y2 : Int) => (.tuple #[.agg #[.int .i64 y0, .slice a21 y1.length c22], .int .i64 y2] : Value)) hr0) hr1) hr2; exact hcc)
     ·exact fun w hw => hw.above (i := 6) (j := 0) (by decide) rfl rfl
     ·intro w hw; exact Eq.mp (congrArg (fun y => SlO tEntry _ w a21 c22 y) hr1) ((hw.at (i := 0) rfl).here)

set_option maxHeartbeats 8000000 in
set_option maxRecDepth 100000 in
theorem enext_ok (s : DStore) (as_0 : Option Addr) (cs_0 : Nat) : Fn0 Try.prog 50 [.agg #[Vi s.life, .slice as_0 s.entries.length cs_0]] (fun w => Rd tEntry w as_0 cs_0 s.entries) (.tuple #[Vi (Exp.next s), Vi (Exp.nextErr s)]) := by
 refine fn0 (nt := 22) (F0 := [(0, .agg #[Vi s.life, .slice as_0 s.entries.length cs_0])]) Try.func50 rfl Try.ntmps50 rfl rfl (fun w0 hpre => ?_)
 have hs_0 := hpre
 have hlhs_0 := hs_0.2.1
 refine c_seq (c_region ?_)
 refine o_box (v := .agg #[Vi s.life, .slice as_0 s.entries.length cs_0]) rfl rfl (fun B1 => ?_)
 refine o_as rfl rfl ?_
 refine o_as rfl rfl ?_
 refine o_nil (q_then (c_seq (c_region ?_)))
 refine o_p (p_load_agg (i := 0) (vs := [Vi s.life, .slice as_0 s.entries.length cs_0]) rfl rfl sh86 rfl rfl) ?_
 refine o_call0 (v := Vi (Exp.check s)) rfl (echeck_ok s as_0 cs_0) hf90 (fun w hw => (rd_base (i := 1) rfl hs_0) w hw) rfl ?_
 refine o_as rfl rfl ?_
 refine o_nil (q_then (c_seq (c_seq (c_region ?_))))
 refine o_mv rfl rfl ?_
 refine o_p (p_eq rfl rfl) ?_
 refine o_mv rfl rfl ?_
 refine o_and (p := 14) 5 ((s.entries.length : Int) == 0) ?_ ?_ ?_
 ·intro hb2 hk
  simp only [beq_iff_eq] at hb2
  refine o_unguard 9 rfl rfl ?_
  refine o_p (p_fieldAddr (j' := 1) rfl fo86_1 rfl) ?_
  refine o_unguard 9 rfl rfl ?_
  refine o_p (p_load (i := 0) (v := .slice as_0 s.entries.length cs_0) rfl rfl sh84 rfl) ?_
  refine o_unguard 9 rfl rfl ?_
  refine o_p (p_len_slice rfl rfl Try.underlying84) ?_
  refine o_unguard 9 rfl rfl ?_
  refine o_p (p_eq rfl rfl) ?_
  refine o_pt rfl rfl rfl ?_
  exact o_sub (sr (Sub.skip rfl (Sub.skip rfl (Sub.skip rfl (Sub.skip rfl (Sub.skip rfl (Sub.skip rfl (Sub.refl _)))))))) hk
 ·intro hb2 hk
  refine o_guard_no rfl 9 rfl rfl rfl rfl rfl ?_
  refine o_guard_no rfl 9 rfl rfl rfl rfl rfl ?_
  refine o_guard_no rfl 9 rfl rfl rfl rfl rfl ?_
  refine o_guard_no rfl 9 rfl rfl rfl rfl rfl ?_
  refine o_pf rfl rfl rfl ?_
  exact o_sub (sr (Sub.skip rfl (Sub.skip rfl (Sub.skip rfl (Sub.skip rfl (Sub.skip rfl (Sub.skip rfl (Sub.refl _)))))))) hk
 refine o_nil (q_then ?_)
 refine c_cond rfl (fun hc3 => ?_) (fun hc3 => ?_)
 ·simp only [Bool.and_eq_true, beq_iff_eq] at hc3
  have hbad := hc3
  refine c_region ?_
  refine o_as rfl rfl ?_
  refine o_nil (q_then (c_seq (c_seq (c_region ?_))))
  refine o_mv rfl rfl ?_
  refine o_p (p_ne rfl rfl) ?_
  refine o_nil (q_then ?_)
  refine c_true rfl ?_
  refine c_seq (c_region ?_)
  refine o_mv rfl rfl ?_
  refine o_as rfl rfl ?_
  refine o_as rfl rfl ?_
  refine o_nil (q_then (c_ret ?_))
  refine q_then_ret ?_
  obtain ⟨hv1, hv2⟩ : _ ∧ _ := by first | exact Exp.nxt2 (s := s) hbad.1 hbad.2 | exact Exp.nxt1 (s := s) (by assumption) | exact Exp.nxt3 (s := s) (by assumption) hne
  have hr0 : (0 : Int) = (Exp.next s) := by
   exact hv1
  have hr1 : (5 : Int) = (Exp.nextErr s) := by
   exact hv2
  refine q_end0 (v := .tuple #[Vi 0, Vi 5]) (rt2 rfl (r_tmp rfl) (r_tmp rfl)) (i := 1) rfl ?_
  exact (by have hcc := congr (congrArg (fun (y0 : Int) (y1 : Int) => (.tuple #[.int .i64 y0, .int .i64 y1] : Value)) hr0) hr1; exact hcc)
 ·simp only [Bool.and_eq_false_iff, beq_eq_false_iff_ne, ne_eq] at hc3
  have hro := hc3
  refine c_skip (q_then (c_seq (c_seq (c_region ?_))))
  refine o_mv rfl rfl ?_
  refine o_p (p_ne rfl rfl) ?_
  refine o_nil (q_then ?_)
  refine c_cond rfl (fun hc4 => ?_) (fun hc4 => ?_)
  ·simp only [bne_iff_ne, ne_eq] at hc4
   refine c_seq (c_region ?_)
   refine o_mv rfl rfl ?_
   refine o_as rfl rfl ?_
   refine o_as rfl rfl ?_
   refine o_nil (q_then (c_ret ?_))
   refine q_then_ret ?_
   obtain ⟨hv1, hv2⟩ : _ ∧ _ := by first | exact Exp.nxt2 (s := s) hbad.1 hbad.2 | exact Exp.nxt1 (s := s) (by assumption) | exact Exp.nxt3 (s := s) (by assumption) hne
   have hr0 : (0 : Int) = (Exp.next s) := by
    exact hv1
   have hr1 : ((Exp.check s) : Int) = (Exp.nextErr s) := by
    exact hv2
   refine q_end0 (v := .tuple #[Vi 0, Vi (Exp.check s)]) (rt2 rfl (r_tmp rfl) (r_tmp rfl)) (i := 1) rfl ?_
   exact (by have hcc := congr (congrArg (fun (y0 : Int) (y1 : Int) => (.tuple #[.int .i64 y0, .int .i64 y1] : Value)) hr0) hr1; exact hcc)
  ·simp only [bne_eq_false_iff_eq] at hc4
   have hne := hro.resolve_left (fun h => h hc4)
   refine c_skip (q_then (c_seq (c_region ?_)))
   refine o_p (p_fieldAddr (j' := 1) rfl fo86_1 rfl) ?_
   refine o_p (p_load (i := 0) (v := .slice as_0 s.entries.length cs_0) rfl rfl sh84 rfl) ?_
   refine o_call0 (v := .agg #[Vi ((minF (fun (x : DEntry) (y : DEntry) => (cmpI x.till y.till)) s.entries).key), Vi ((minF (fun (x : DEntry) (y : DEntry) => (cmpI x.till y.till)) s.entries).value), Vi ((minF (fun (x : DEntry) (y : DEntry) => (cmpI x.till y.till)) s.entries).till)]) rfl (minFunc_ok s.entries as_0 cs_0 92 [] (fun x y => (cmpI x.till y.till)) (fun _ => True) (fun _ _ _ h => h) (fun x y => enext1_ok x y) hf92 (by omega)) hf91 (fun w hw => ⟨(rd_base (i := 1) rfl hs_0) w hw, trivial⟩) rfl ?_
   refine o_p (p_field (vs := [Vi ((minF (fun (x : DEntry) (y : DEntry) => (cmpI x.till y.till)) s.entries).key), Vi ((minF (fun (x : DEntry) (y : DEntry) => (cmpI x.till y.till)) s.entries).value), Vi ((minF (fun (x : DEntry) (y : DEntry) => (cmpI x.till y.till)) s.entries).till)]) (v := Vi ((minF (fun (x : DEntry) (y : DEntry) => (cmpI x.till y.till)) s.entries).till)) rfl fc139_2 rfl) ?_
   refine o_as rfl rfl ?_
   refine o_as rfl rfl ?_
   refine o_nil (q_then (c_ret ?_))
   obtain ⟨hv1, hv2⟩ : _ ∧ _ := by first | exact Exp.nxt2 (s := s) hbad.1 hbad.2 | exact Exp.nxt1 (s := s) (by assumption) | exact Exp.nxt3 (s := s) (by assumption) hne
   have hr0 : ((minF (fun (x : DEntry) (y : DEntry) => (cmpI x.till y.till)) s.entries).till : Int) = (Exp.next s) := by
    exact hv1
   have hr1 : (0 : Int) = (Exp.nextErr s) := by
    exact hv2
   refine q_end0 (v := .tuple #[Vi ((minF (fun (x : DEntry) (y : DEntry) => (cmpI x.till y.till)) s.entries).till), Vi 0]) (rt2 rfl (r_tmp rfl) (r_tmp rfl)) (i := 1) rfl ?_
   exact (by have hcc := congr (congrArg (fun (y0 : Int) (y1 : Int) => (.tuple #[.int .i64 y0, .int .i64 y1] : Value)) hr0) hr1; exact hcc)
end Go.Proofs.Ytnmbkopnopaigaa
