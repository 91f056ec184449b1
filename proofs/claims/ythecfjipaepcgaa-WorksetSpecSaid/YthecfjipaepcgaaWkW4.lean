/- The walks, printed by a program from the translation and a specification. -/
import Derived.Test.YthecfjipaepcgaaWkF
import Derived.Test.YthecfjipaepcgaaWsLaw5
import Derived.Test.YthecfjipaepcgaaExLaw
import Derived.Test.YthecfjipaepcgaaWkW3
namespace Go.Proofs.Ythecfjipaepcgaa
open Go.Sx Go.RowKit
set_option maxHeartbeats 8000000 in
set_option maxRecDepth 100000 in
theorem wcommon_ok (a : List (Int × Int)) (Ba : Nat) (b : List (Int × Int)) (Bb : Nat) (hy1 : a.length ≤ 1000) : Fn0 Try.prog 79 [.map (some Ba), .map (some Bb)] (fun w => MapIs kInt (fun z : Int => .int .i64 z) Ba a w ∧ MapIs kInt (fun z : Int => .int .i64 z) Bb b w) (.int .i64 (Ws.common a b)) := by
  refine fn0 (nt := 24) (F0 := [(0, .map (some Ba)), (1, .map (some Bb))]) Try.func79 rfl Try.ntmps79 rfl rfl (fun w0 hpre => ?_)
  obtain ⟨ha, hb⟩ := hpre
  obtain ⟨es_ha, cl_ha, ha_1, ha_2, ha_3⟩ : ∃ es c, _ ∧ _ ∧ _ := (id ha)
  obtain ⟨es_hb, cl_hb, hb_1, hb_2, hb_3⟩ : ∃ es c, _ ∧ _ ∧ _ := (id hb)
  refine c_seq ?_
  refine c_region ?_
  refine o_pure (p_assign (v := .int .i64 0) rfl) rfl rfl rfl ?_
  refine o_nil ?_
  refine q_then ?_
  refine c_seq ?_
  refine c_seq ?_
  refine c_region ?_
  refine o_pure (p_move (v := .map (some Ba)) rfl) rfl rfl rfl ?_
  refine o_range (K := kInt) (ve := (fun z : Int => .int .i64 z)) (m := a) rfl (blk_base (i := 0) rfl ha_1) ha_2 ha_3 Try.underlying110 rfl (fun B1 => ?_)
  refine o_nil ?_
  refine q_then ?_
  refine c_block ?_
  refine c_loop (St := Int × List (Int × Int) × Option (Int × Int))
    (fun ⟨n, lf, lfc⟩ => [(1, .map (some Bb)), (4, .int .i64 n), (9, .pointer (some ⟨B1, 0, none⟩))])
    (fun ⟨n, lf, lfc⟩ => [iterE kInt (fun z : Int => .int .i64 z) B1 Ba es_ha cl_ha lf lfc, base w0])
    (fun ⟨n, lf, lfc⟩ => Ws.CI a b lf n)
    (fun ⟨n, lf, lfc⟩ => lf.length)
    (0, a, none) ?_ (Sub.cons rfl (Sub.cons rfl (Sub.cons rfl (Sub.nil _)))) (fun _ hw => hw) ?_
  · exact Ws.CI.start a b
  rintro ⟨n, lf, lfc⟩ hI K hK2
  have hnb := hI.bd
  show SC _ _ Try.prog 24 w0 _ _ [(1, .map (some Bb)), (4, .int .i64 n), (9, .pointer (some ⟨B1, 0, none⟩))] [iterE kInt (fun z : Int => .int .i64 z) B1 Ba es_ha cl_ha lf lfc, base w0]
  refine c_seq ?_
  refine c_region ?_
  refine o_next (i := 0) rfl rfl (blk_base (i := 1) rfl ha_1) ha_3 rfl ?_ ?_
  · intro hnil
    refine o_pure (p_extract (vs := [.bool false]) (v := .bool false) rfl rfl) rfl rfl rfl ?_
    refine o_nil ?_
    refine q_then ?_
    refine c_seq ?_
    refine c_false rfl ?_
    refine c_exit ?_
    refine q_then_exit (q_then_exit (q_block_exit (q_then ?_)))
    refine c_seq ?_
    refine c_region ?_
    refine o_pure (p_move (v := .int .i64 n) rfl) rfl rfl rfl ?_
    refine o_pure (p_assign (v := .int .i64 n) rfl) rfl rfl rfl ?_
    refine o_nil ?_
    refine q_then ?_
    refine c_ret ?_
    have hr0 : (n : Int) = (Ws.common a b) := by
      exact hI.done hnil
    refine q_end0 (v := .int .i64 n) (rt1 rfl (r_tmp rfl)) (i := 1) rfl ?_
    exact (by have hcc := congrArg (fun (y0 : Int) => (.int .i64 y0 : Value)) hr0; exact hcc)
  · rintro xe xA xC hxs
    refine o_pure (p_extract (vs := [.bool true, .int .i64 xe.1, .int .i64 xe.2]) (v := .bool true) rfl rfl) rfl rfl rfl ?_
    refine o_nil ?_
    refine q_then ?_
    refine c_seq ?_
    refine c_true rfl ?_
    refine c_skip ?_
    refine q_then ?_
    refine c_block ?_
    refine c_seq ?_
    refine c_region ?_
    refine o_pure (p_entry (K := kInt) (ve := (fun z : Int => .int .i64 z)) (p := xe) (i := 0) rfl rfl (blk_base (i := 1) rfl ha_1) ha_3) rfl rfl rfl ?_
    refine o_pure (p_extract (vs := [.int .i64 xe.1, .int .i64 xe.2]) (v := .int .i64 xe.1) rfl rfl) rfl rfl rfl ?_
    refine o_pure (p_assign (v := .int .i64 xe.1) rfl) rfl rfl rfl ?_
    refine o_nil ?_
    refine q_then ?_
    refine c_seq ?_
    refine c_region ?_
    refine o_pure (p_move (v := .map (some Bb)) rfl) rfl rfl rfl ?_
    refine o_pure (p_move (v := .int .i64 xe.1) rfl) rfl rfl rfl ?_
    refine o_pure (p_lookup2R (K := kInt) (ve := (fun z : Int => .int .i64 z)) (m := b) (k := xe.1) (dflt := 0) rfl rfl (rmap_base (i := 1) rfl hb) Try.underlying110 Try.underlying3 zv3) rfl rfl rfl ?_
    refine o_pure (p_move (v := .tuple #[.int .i64 ((AL.get b xe.1).getD 0), .bool ((AL.get b xe.1).isSome)]) rfl) rfl rfl rfl ?_
    refine o_pure (p_extract (vs := [.int .i64 ((AL.get b xe.1).getD 0), .bool ((AL.get b xe.1).isSome)]) (v := .int .i64 ((AL.get b xe.1).getD 0)) rfl rfl) rfl rfl rfl ?_
    refine o_pure (p_extract (vs := [.int .i64 ((AL.get b xe.1).getD 0), .bool ((AL.get b xe.1).isSome)]) (v := .bool ((AL.get b xe.1).isSome)) rfl rfl) rfl rfl rfl ?_
    refine o_pure (p_assign (v := .int .i64 ((AL.get b xe.1).getD 0)) rfl) rfl rfl rfl ?_
    refine o_pure (p_assign (v := .bool ((AL.get b xe.1).isSome)) rfl) rfl rfl rfl ?_
    refine o_nil ?_
    refine q_then ?_
    refine c_seq ?_
    refine c_region ?_
    refine o_pure (p_move (v := .bool ((AL.get b xe.1).isSome)) rfl) rfl rfl rfl ?_
    refine o_nil ?_
    refine q_then ?_
    refine c_cond (b := (AL.get b xe.1).isSome) rfl (fun hc3 => ?_) (fun hc3 => ?_)
    · skip
      refine c_region ?_
      refine o_pure (p_move (v := .int .i64 n) rfl) rfl rfl rfl ?_
      refine o_pure (p_addb (p := n) (q := 1) rfl rfl (by omega)) rfl rfl rfl ?_
      refine o_pure (p_assign (v := .int .i64 (n + 1)) rfl) rfl rfl rfl ?_
      refine o_nil ?_
      refine q_block_normal ?_
      refine q_round hK2 ((n + 1), (xA ++ xC), (some xe)) ?_ ?_ ?_ ?_
      · clear hK2
        first | exact hI.take_ hxs (by assumption) | exact hI.skip hxs (by assumption)
      · (try dsimp only); rw [hxs]; simp only [List.length_append, List.length_cons]; omega
      · exact Sub.cons rfl (Sub.cons rfl (Sub.cons rfl (Sub.nil _)))
      · exact fun _ hw => HeapIs.pick hw [0, 1] (by decide) rfl
    · skip
      refine c_skip ?_
      refine q_block_normal ?_
      refine q_round hK2 (n, (xA ++ xC), (some xe)) ?_ ?_ ?_ ?_
      · clear hK2
        first | exact hI.take_ hxs (by assumption) | exact hI.skip hxs (by assumption)
      · (try dsimp only); rw [hxs]; simp only [List.length_append, List.length_cons]; omega
      · exact Sub.cons rfl (Sub.cons rfl (Sub.cons rfl (Sub.nil _)))
      · exact fun _ hw => HeapIs.pick hw [0, 1] (by decide) rfl

set_option maxHeartbeats 8000000 in
set_option maxRecDepth 100000 in
theorem wphases_ok (l : List Int) (al : Option Addr) (cl : Nat) (wd : Int) (least : Int) : FnM Try.prog 43 [.slice al l.length cl, .int .i64 wd, .int .i64 least] (fun w => Rd tInt w al cl l) (Option Addr × Nat) (fun p => .tuple #[.slice p.1 (Ws.phases l wd least).length p.2, .int .i64 (Ws.phErr l wd least)]) (fun p S w => SlO tInt S w p.1 p.2 (Ws.phases l wd least)) := by
  refine fnMR (nt := 56) (F0 := [(0, .slice al l.length cl), (1, .int .i64 wd), (2, .int .i64 least)]) Try.func43 rfl Try.ntmps43 rfl rfl (fun w0 hpre => ?_)
  have hl := hpre
  have hlhl := hl.2.1
  refine c_seq ?_
  refine c_region ?_
  refine o_box (v := .int .i64 wd) rfl rfl (fun B1 => ?_)
  refine o_box (v := .int .i64 least) rfl rfl (fun B2 => ?_)
  refine o_pure (p_assign (v := .slice none 0 0) rfl) rfl rfl rfl ?_
  refine o_pure (p_assign (v := .int .i64 0) rfl) rfl rfl rfl ?_
  refine o_nil ?_
  refine q_then ?_
  refine c_seq ?_
  refine c_region ?_
  refine o_pure (p_move (v := .slice al l.length cl) rfl) rfl rfl rfl ?_
  refine o_pure (p_load (i := 1) (v := .int .i64 wd) rfl rfl sh3 rfl) rfl rfl rfl ?_
  refine o_call0 (v := .int .i64 (Ws.check l wd)) rfl (wcheck_ok l al cl wd) hf78 (fun w hw => (rd_base (i := 2) rfl hl) w hw) rfl ?_
  refine o_pure (p_assign (v := .int .i64 (Ws.check l wd)) rfl) rfl rfl rfl ?_
  refine o_nil ?_
  refine q_then ?_
  refine c_seq ?_
  refine c_seq ?_
  refine c_region ?_
  refine o_pure (p_move (v := .int .i64 (Ws.check l wd)) rfl) rfl rfl rfl ?_
  refine o_pure (p_eq (p := (Ws.check l wd)) (q := 0) rfl rfl) rfl rfl rfl ?_
  refine o_pure (p_move (v := .bool ((Ws.check l wd) == 0)) rfl) rfl rfl rfl ?_
  refine o_and (p := 23) 4 (!(Ws.okWin least)) ?_ ?_ ?_
  · intro hb3 hk
    simp only [beq_iff_eq] at hb3
    refine o_unguard 19 rfl rfl ?_
    refine o_pure (p_load (i := 0) (v := .int .i64 least) rfl rfl sh3 rfl) rfl rfl rfl ?_
    refine o_unguard 19 rfl rfl ?_
    refine o_call0 (v := .bool (Ws.okWin least)) rfl (wwindow_ok least) hf74 (fun _ _ => trivial) rfl ?_
    refine o_unguard 19 rfl rfl ?_
    refine o_pure (p_not (b := (Ws.okWin least)) rfl) rfl rfl rfl ?_
    refine o_pure (p_pick_true (u := .bool (!(Ws.okWin least))) rfl rfl) rfl rfl rfl ?_
    exact o_sub (Sub.cons rfl (Sub.skip rfl (Sub.skip rfl (Sub.skip rfl (Sub.skip rfl (Sub.skip rfl (Sub.refl _))))))) hk
  · intro hb3 hk
    refine o_guard_no rfl 19 rfl rfl rfl rfl rfl ?_
    refine o_guard_no rfl 19 rfl rfl rfl rfl rfl ?_
    refine o_guard_no rfl 19 rfl rfl rfl rfl rfl ?_
    refine o_pure (p_pick_false (v := .bool false) rfl rfl) rfl rfl rfl ?_
    exact o_sub (Sub.cons rfl (Sub.skip rfl (Sub.skip rfl (Sub.skip rfl (Sub.skip rfl (Sub.skip rfl (Sub.refl _))))))) hk
  refine o_nil ?_
  refine q_then ?_
  refine c_cond (b := (((Ws.check l wd) == 0) && (!(Ws.okWin least)))) rfl (fun hc4 => ?_) (fun hc4 => ?_)
  · simp only [Bool.and_eq_true, beq_iff_eq, Bool.not_eq_true'] at hc4
    have hbad := hc4
    refine c_region ?_
    refine o_pure (p_assign (v := .int .i64 3) rfl) rfl rfl rfl ?_
    refine o_nil ?_
    refine q_then ?_
    refine c_seq ?_
    refine c_seq ?_
    refine c_region ?_
    refine o_pure (p_move (v := .int .i64 3) rfl) rfl rfl rfl ?_
    refine o_pure (p_ne (p := 3) (q := 0) rfl rfl) rfl rfl rfl ?_
    refine o_nil ?_
    refine q_then ?_
    refine c_true rfl ?_
    refine c_seq ?_
    refine c_region ?_
    refine o_pure (p_move (v := .int .i64 3) rfl) rfl rfl rfl ?_
    refine o_pure (p_assign (v := .slice none 0 0) rfl) rfl rfl rfl ?_
    refine o_pure (p_assign (v := .int .i64 3) rfl) rfl rfl rfl ?_
    refine o_nil ?_
    refine q_then ?_
    refine c_ret ?_
    refine q_then_ret ?_
    refine q_marks0 ?_
    have hr0 : ([] : List Int) = (Ws.phases l wd least) := by
      first | exact (Ws.ph2 hbad).1.symm | exact (Ws.ph2 hbad).2.symm | exact hz.1.symm | exact hz.2.symm | exact hI.done.trans hz.2.symm | rfl
    have hr1 : (3 : Int) = (Ws.phErr l wd least) := by
      first | exact (Ws.ph2 hbad).1.symm | exact (Ws.ph2 hbad).2.symm | exact hz.1.symm | exact hz.2.symm | exact hI.done.trans hz.2.symm | rfl
    refine q_endM (p := (none, 0)) (fun _ => False) (rt2 rfl (r_tmp rfl) (r_tmp rfl)) (i := 2) rfl ?_ ?_ ?_
    · exact (by have hcc := congr (congrArg (fun (y0 : List Int) (y1 : Int) => (.tuple #[.slice none y0.length 0, .int .i64 y1] : Value)) hr0) hr1; exact hcc)
    · intro w hw b hb; exact hb.elim
    · intro w hw; exact Eq.mp (congrArg (fun y => SlO tInt _ w none 0 y) hr0) (SlO.nil tInt w)
  · simp only [Bool.and_eq_false_iff, beq_eq_false_iff_ne, ne_eq, Bool.not_eq_false'] at hc4
    have hgood := hc4
    refine c_skip ?_
    refine q_then ?_
    refine c_seq ?_
    refine c_seq ?_
    refine c_region ?_
    refine o_pure (p_move (v := .int .i64 (Ws.check l wd)) rfl) rfl rfl rfl ?_
    refine o_pure (p_ne (p := (Ws.check l wd)) (q := 0) rfl rfl) rfl rfl rfl ?_
    refine o_nil ?_
    refine q_then ?_
    refine c_cond (b := ((Ws.check l wd) != 0)) rfl (fun hc5 => ?_) (fun hc5 => ?_)
    · simp only [bne_iff_ne, ne_eq] at hc5
      have hz := Ws.ph1 (least := least) hc5
      refine c_seq ?_
      refine c_region ?_
      refine o_pure (p_move (v := .int .i64 (Ws.check l wd)) rfl) rfl rfl rfl ?_
      refine o_pure (p_assign (v := .slice none 0 0) rfl) rfl rfl rfl ?_
      refine o_pure (p_assign (v := .int .i64 (Ws.check l wd)) rfl) rfl rfl rfl ?_
      refine o_nil ?_
      refine q_then ?_
      refine c_ret ?_
      refine q_then_ret ?_
      refine q_marks0 ?_
      have hr0 : ([] : List Int) = (Ws.phases l wd least) := by
        first | exact (Ws.ph2 hbad).1.symm | exact (Ws.ph2 hbad).2.symm | exact hz.1.symm | exact hz.2.symm | exact hI.done.trans hz.2.symm | rfl
      have hr1 : ((Ws.check l wd) : Int) = (Ws.phErr l wd least) := by
        first | exact (Ws.ph2 hbad).1.symm | exact (Ws.ph2 hbad).2.symm | exact hz.1.symm | exact hz.2.symm | exact hI.done.trans hz.2.symm | rfl
      refine q_endM (p := (none, 0)) (fun _ => False) (rt2 rfl (r_tmp rfl) (r_tmp rfl)) (i := 2) rfl ?_ ?_ ?_
      · exact (by have hcc := congr (congrArg (fun (y0 : List Int) (y1 : Int) => (.tuple #[.slice none y0.length 0, .int .i64 y1] : Value)) hr0) hr1; exact hcc)
      · intro w hw b hb; exact hb.elim
      · intro w hw; exact Eq.mp (congrArg (fun y => SlO tInt _ w none 0 y) hr0) (SlO.nil tInt w)
    · simp only [bne_eq_false_iff_eq] at hc5
      have hck := hc5
      have hz := Ws.ph3 hc5 hgood
      have hok := Ws.chk_ok hc5
      have hwb := Ws.okWin_bd hok.2.1
      have hlb := Ws.okWin_bd (hgood.resolve_left (fun q => q hck))
      refine c_skip ?_
      refine q_then ?_
      refine c_seq ?_
      refine c_region ?_
      refine o_alloc ze45 rfl (fun B6 => ?_)
      refine o_nil ?_
      refine q_then ?_
      refine c_seq ?_
      refine c_region ?_
      refine o_alloc ze110 rfl (fun B7 => ?_)
      refine o_nil ?_
      refine q_then ?_
      refine c_seq ?_
      refine c_region ?_
      refine o_alloc ze3 rfl (fun B8 => ?_)
      refine o_store (i := 0) (v := .int .i64 0) (cs' := [.int .i64 0]) rfl rfl rfl sz3 rfl rfl rfl ?_
      refine o_nil ?_
      refine q_then ?_
      refine c_seq ?_
      refine c_seq ?_
      refine c_region ?_
      refine o_pure (p_move (v := .slice al l.length cl) rfl) rfl rfl rfl ?_
      refine o_pure (p_load (i := 4) (v := .int .i64 wd) rfl rfl sh3 rfl) rfl rfl rfl ?_
      refine o_callX (pre := []) (R := [box B8 [.int .i64 0] 3, box B7 [.map none] 110, box B6 [.slice none 0 0] 45, box B2 [.int .i64 least] 3, box B1 [.int .i64 wd] 3, base w0]) rfl (wsets_ok l al cl wd) hf75 rfl (fun _ _ => trivial) rfl ?_
      rintro ⟨B9, B10⟩
      refine o_asH (H' := [box B9 [.slice al l.length cl] 45, box B10 [.int .i64 wd] 3, box B8 [.int .i64 0] 3, box B7 [.map none] 110, box B6 [.slice none 0 0] 45, box B2 [.int .i64 least] 3, box B1 [.int .i64 wd] 3, base w0]) rfl ?_
      refine o_nil ?_
      refine q_then ?_
      refine c_block ?_
      refine c_mapNil kInt (fun z : Int => .int .i64 z) [] ?_
      refine c_ownNil tInt ?_
      refine c_rangeFunc (f := 100) (caps := [.pointer (some ⟨B9, 0, none⟩), .pointer (some ⟨B10, 0, none⟩)]) (Pr := (fun e w => ((box B9 [.slice al l.length cl] 45).A w ∧ (outer w [e]).S B9) ∧ SlR tInt (outer w [e]).S w al cl l ∧ ((box B10 [.int .i64 wd] 3).A w ∧ (outer w [e]).S B10))) (X := Nat) (encs := (fun x k => [.int .i64 (k : Int), .map (some x)])) (E := (fun x k => [mapE kInt (fun z : Int => .int .i64 z) x (Ws.mapAt l wd (k + 1))])) (N := l.length) rfl hf100 (sets1_ok l al cl B9 wd B10 (by omega)) (fun _ _ => rfl) (by decide) (St := Int × Option Nat × List (Int × Int) × List Int × Option Addr × Nat × (Nat → Prop))
        (fun ⟨la, bn, mb, ol, aol, col, Sol⟩ => [own tInt Sol aol col ol, mapO kInt (fun z : Int => .int .i64 z) bn mb, box B8 [.int .i64 la] 3, box B7 [.map bn] 110, box B6 [.slice aol ol.length col] 45])
        (fun k ⟨la, bn, mb, ol, aol, col, Sol⟩ => Ws.PI l wd least ol la bn mb k)
        (fun c ⟨la, bn, mb, ol, aol, col, Sol⟩ => False)
        [box B9 [.slice al l.length cl] 45, box B10 [.int .i64 wd] 3, box B2 [.int .i64 least] 3, box B1 [.int .i64 wd] 3, base w0]
        (0, none, [], [], none, 0, (fun _ => False)) ?_ ?_ ?_ ?_ ?_ ?_
      · exact Ws.PI.start l wd least
      · exact fun w hw => hw.pick (H' := [own tInt (fun _ => False) none 0 ([]), mapO kInt (fun z : Int => .int .i64 z) none ([]), box B8 [.int .i64 0] 3, box B7 [.map none] 110, box B6 [.slice none 0 0] 45, box B9 [.slice al l.length cl] 45, box B10 [.int .i64 wd] 3, box B2 [.int .i64 least] 3, box B1 [.int .i64 wd] 3, base w0]) [0, 1, 4, 5, 6, 2, 3, 7, 8, 9] (by decide) rfl
      · intro D e0 W1 hW1
        exact ⟨boxX (i := 2) (js := [0]) rfl (by decide) rfl W1 hW1, (rdX (i := 6) (js := [0]) rfl (by decide) rfl (fun _ hA => slR_base hl hA)) W1 hW1, boxX (i := 3) (js := [0]) rfl (by decide) rfl W1 hW1⟩
      · rintro l_ rc D e0 W1 hW1 x_ k ⟨la, bn, mb, ol, aol, col, Sol⟩ hk hI
        have hbd := hI.bd
        have hll := hI.len
        have hobr0_B1 := boxX (i := 5) (B := B1) (cs := [.int .i64 wd]) (U := 3) (js := [0]) (pre := [e0]) rfl (by decide) rfl W1 hW1
        have hobr0_B2 := boxX (i := 4) (B := B2) (cs := [.int .i64 least]) (U := 3) (js := [0]) (pre := [e0]) rfl (by decide) rfl W1 hW1
        rcases bn with _ | Bq
        · have hbq := hI
          refine c_seq ?_
          refine c_region ?_
          refine o_pure (p_assign (v := .int .i64 (k : Int)) rfl) rfl rfl rfl ?_
          refine o_nil ?_
          refine q_then ?_
          refine c_region ?_
          refine o_pure (p_assign (v := .map (some x_)) rfl) rfl rfl rfl ?_
          refine o_nil ?_
          refine q_begin (i := 1) rfl ?_
          refine c_block ?_
          refine c_seq ?_
          refine c_drawR hmix (by decide) (fun _ _ h => h) (by kernel_rfl) ?_
          refine w_pure (p_move (v := .int .i64 (k : Int)) rfl) rfl rfl rfl ?_
          refine w_pure (p_eq (p := (k : Int)) (q := 0) rfl rfl) rfl rfl rfl ?_
          refine w_pure (p_move (v := .bool ((k : Int) == 0)) rfl) rfl rfl rfl ?_
          refine w_or (p := 47) 13 false ?_ ?_ ?_
          · intro hb12 hk
            simp only [beq_eq_false_iff_ne, ne_eq] at hb12
            exfalso; have h9 := hI.none0 rfl; omega
          · intro hb12 hk
            refine w_guard_no rfl 34 rfl rfl rfl rfl rfl ?_
            refine w_guard_no rfl 34 rfl rfl rfl rfl rfl ?_
            refine w_guard_no rfl 34 rfl rfl rfl rfl rfl ?_
            refine w_guard_no rfl 34 rfl rfl rfl rfl rfl ?_
            refine w_guard_no rfl 34 rfl rfl rfl rfl rfl ?_
            refine w_guard_no rfl 34 rfl rfl rfl rfl rfl ?_
            refine w_guard_no rfl 40 rfl rfl rfl rfl rfl ?_
            refine w_guard_no rfl 40 rfl rfl rfl rfl rfl ?_
            refine w_guard_no rfl 40 rfl rfl rfl rfl rfl ?_
            refine w_guard_no rfl 40 rfl rfl rfl rfl rfl ?_
            refine w_guard_no rfl 40 rfl rfl rfl rfl rfl ?_
            refine w_guard_no rfl 34 rfl rfl rfl rfl rfl ?_
            refine w_pure (p_pick_true (u := .bool true) rfl rfl) rfl rfl rfl ?_
            exact w_sub (Sub.cons rfl (Sub.skip rfl (Sub.skip rfl (Sub.skip rfl (Sub.skip rfl (Sub.skip rfl (Sub.skip rfl (Sub.skip rfl (Sub.skip rfl (Sub.skip rfl (Sub.skip rfl (Sub.skip rfl (Sub.skip rfl (Sub.skip rfl (Sub.skip rfl (Sub.refl _)))))))))))))))) hk
          refine w_nil ?_
          refine q_then ?_
          refine c_cond (b := (((k : Int) == 0) || false)) rfl (fun hc13 => ?_) (fun hc13 => ?_)
          · simp only [Bool.or_eq_true, beq_iff_eq] at hc13
            have hcc := hc13
            refine c_seq ?_
            refine c_region ?_
            refine o_pure (p_move (v := .map (some x_)) rfl) rfl rfl rfl ?_
            refine o_callX (pre := []) (R := [outer W1 [e0], loopE l_ (recd rc .busy none), own tInt Sol aol col ol, mapO kInt (fun z : Int => .int .i64 z) none mb, box B8 [.int .i64 la] 3, box B7 [.map none] 110, box B6 [.slice aol ol.length col] 45, mapE kInt (fun z : Int => .int .i64 z) x_ (Ws.mapAt l wd (k + 1))]) rfl (clone_ok (Ws.mapAt l wd (k + 1)) x_) hf80 rfl (fun w hw => (hw.at (i := 7) rfl).here) rfl ?_
            rintro B14
            refine o_asH (H' := [mapE kInt (fun z : Int => .int .i64 z) B14 (Ws.mapAt l wd (k + 1)), outer W1 [e0], loopE l_ (recd rc .busy none), own tInt Sol aol col ol, mapO kInt (fun z : Int => .int .i64 z) none mb, box B8 [.int .i64 la] 3, box B7 [.map none] 110, box B6 [.slice aol ol.length col] 45, mapE kInt (fun z : Int => .int .i64 z) x_ (Ws.mapAt l wd (k + 1))]) rfl ?_
            refine o_pure (p_move (v := .int .i64 (k : Int)) rfl) rfl rfl rfl ?_
            refine o_store (i := 6) (v := .map (some B14)) (cs' := [.map (some B14)]) rfl rfl rfl sz110 rfl rfl rfl ?_
            refine o_store (i := 5) (v := .int .i64 (k : Int)) (cs' := [.int .i64 (k : Int)]) rfl rfl rfl sz3 rfl rfl rfl ?_
            refine o_nil ?_
            refine q_then ?_
            refine c_region ?_
            refine o_pure (p_load (i := 7) (v := .slice aol ol.length col) rfl rfl sh45 rfl) rfl rfl rfl ?_
            refine o_pure (p_move (v := .int .i64 (k : Int)) rfl) rfl rfl rfl ?_
            refine o_buildSlice (m := 1) (T := tInt) (L := [(k : Int)]) (vs := [.int .i64 (k : Int)]) rfl rfl rfl rfl Try.underlying45 sz3 (by decide) ze3 rfl (by decide) rfl (fun S15 a16 => ?_)
            refine o_append (i := 4) (L := ol) (M := [(k : Int)]) (T := tInt) rfl rfl rfl (rd_own (i := 0) rfl) Try.underlying45 Try.underlying45 (by intro k h; cases h) el3 (by intro z; simp [tInt, one1]) (by decide) (by first | omega | (simp only [List.length_cons, List.length_nil]; omega) | (simp only [List.length_append, List.length_cons, List.length_nil, List.length_take, List.length_drop]; omega)) rfl (fun a18 c19 S20 => ?_)
            refine o_store (i := 8) (v := .slice a18 (ol ++ [(k : Int)]).length c19) (cs' := [.slice a18 (ol ++ [(k : Int)]).length c19]) rfl rfl rfl sz45 rfl rfl rfl ?_
            refine o_nil ?_
            refine q_block_normal ?_
            refine q_next ((k : Int), (some B14), (Ws.mapAt l wd (k + 1)), (ol ++ [(k : Int)]), a18, c19, S20) ?_ (fun w hw => hw.pick (H' := [outer W1 [e0], loopE l_ (recd rc .busy none), own tInt S20 a18 c19 (ol ++ [(k : Int)]), mapE kInt (fun z : Int => .int .i64 z) B14 (Ws.mapAt l wd (k + 1)), box B8 [.int .i64 (k : Int)] 3, box B7 [.map (some B14)] 110, box B6 [.slice a18 (ol ++ [(k : Int)]).length c19] 45, mapE kInt (fun z : Int => .int .i64 z) x_ (Ws.mapAt l wd (k + 1))]) [2, 3, 4, 1, 6, 7, 8, 9] (by decide) rfl)
            first | (exfalso; have h9 := hbq.none0 rfl; omega) | exact hI.take_ hwb.1 hk (by first | omega | assumption | simp_all) | exact hI.skip (by first | assumption | simp_all)
          · simp only [Bool.or_eq_false_iff, beq_eq_false_iff_ne, ne_eq] at hc13
            have hcc := hc13
            refine c_skip ?_
            refine q_block_normal ?_
            refine q_next (la, none, mb, ol, aol, col, Sol) ?_ (fun w hw => hw.pick (H' := [outer W1 [e0], loopE l_ (recd rc .busy none), own tInt Sol aol col ol, mapO kInt (fun z : Int => .int .i64 z) none mb, box B8 [.int .i64 la] 3, box B7 [.map none] 110, box B6 [.slice aol ol.length col] 45, mapE kInt (fun z : Int => .int .i64 z) x_ (Ws.mapAt l wd (k + 1))]) [0, 1, 2, 3, 4, 5, 6, 7] (by decide) rfl)
            first | (exfalso; have h9 := hbq.none0 rfl; omega) | exact hI.take_ hwb.1 hk (by first | omega | assumption | simp_all) | exact hI.skip (by first | assumption | simp_all)
        · have hbq := hI
          refine c_seq ?_
          refine c_region ?_
          refine o_pure (p_assign (v := .int .i64 (k : Int)) rfl) rfl rfl rfl ?_
          refine o_nil ?_
          refine q_then ?_
          refine c_region ?_
          refine o_pure (p_assign (v := .map (some x_)) rfl) rfl rfl rfl ?_
          refine o_nil ?_
          refine q_begin (i := 1) rfl ?_
          refine c_block ?_
          refine c_seq ?_
          refine c_drawR hmix (by decide) (fun _ _ h => h) (by kernel_rfl) ?_
          refine w_pure (p_move (v := .int .i64 (k : Int)) rfl) rfl rfl rfl ?_
          refine w_pure (p_eq (p := (k : Int)) (q := 0) rfl rfl) rfl rfl rfl ?_
          refine w_pure (p_move (v := .bool ((k : Int) == 0)) rfl) rfl rfl rfl ?_
          refine w_or (p := 47) 13 (decide ((la + wd) ≤ (k : Int)) && decide ((Ws.common mb (Ws.mapAt l wd (k + 1))) < least)) ?_ ?_ ?_
          · intro hb21 hk
            simp only [beq_eq_false_iff_ne, ne_eq] at hb21
            refine w_unguard 34 rfl rfl ?_
            refine w_pure (p_move (v := .int .i64 (k : Int)) rfl) rfl rfl rfl ?_
            refine w_unguard 34 rfl rfl ?_
            refine w_pure (p_load (i := 4) (v := .int .i64 la) rfl rfl sh3 rfl) rfl rfl rfl ?_
            refine w_unguard 34 rfl rfl ?_
            refine w_pure (p_loadR (v := .int .i64 wd) rfl (rbox_outer (i := 0) rfl hobr0_B1) sh3 rfl) rfl rfl rfl ?_
            refine w_unguard 34 rfl rfl ?_
            refine w_pure (p_addb (p := la) (q := wd) rfl rfl (by omega)) rfl rfl rfl ?_
            refine w_unguard 34 rfl rfl ?_
            refine w_pure (p_ge (p := (k : Int)) (q := (la + wd)) rfl rfl) rfl rfl rfl ?_
            refine w_unguard 34 rfl rfl ?_
            refine w_pure (p_move (v := .bool (decide ((la + wd) ≤ (k : Int)))) rfl) rfl rfl rfl ?_
            refine w_and (p := 46) 6 (decide ((Ws.common mb (Ws.mapAt l wd (k + 1))) < least)) ?_ ?_ ?_
            · intro hb22 hk
              simp only [decide_eq_true_eq] at hb22
              refine w_unguard 40 rfl rfl ?_
              refine w_pure (p_load (i := 5) (v := .map (some Bq)) rfl rfl sh110 rfl) rfl rfl rfl ?_
              refine w_unguard 40 rfl rfl ?_
              refine w_pure (p_move (v := .map (some x_)) rfl) rfl rfl rfl ?_
              refine w_unguard 40 rfl rfl ?_
              refine w_call0 (v := .int .i64 (Ws.common mb (Ws.mapAt l wd (k + 1)))) rfl (wcommon_ok mb Bq (Ws.mapAt l wd (k + 1)) x_ (by first | assumption | omega)) hf79 (fun w hw => ⟨rmap_own (i := 3) rfl w hw, rmap_own (i := 7) rfl w hw⟩) rfl ?_
              refine w_unguard 40 rfl rfl ?_
              refine w_pure (p_loadR (v := .int .i64 least) rfl (rbox_outer (i := 0) rfl hobr0_B2) sh3 rfl) rfl rfl rfl ?_
              refine w_unguard 40 rfl rfl ?_
              refine w_pure (p_lt (p := (Ws.common mb (Ws.mapAt l wd (k + 1)))) (q := least) rfl rfl) rfl rfl rfl ?_
              refine w_unguard 34 rfl rfl ?_
              refine w_pure (p_pick_true (u := .bool (decide ((Ws.common mb (Ws.mapAt l wd (k + 1))) < least))) rfl rfl) rfl rfl rfl ?_
              exact w_sub (Sub.cons rfl (Sub.skip rfl (Sub.skip rfl (Sub.skip rfl (Sub.skip rfl (Sub.skip rfl (Sub.skip rfl (Sub.skip rfl (Sub.refl _))))))))) hk
            · intro hb22 hk
              refine w_guard_no rfl 40 rfl rfl rfl rfl rfl ?_
              refine w_guard_no rfl 40 rfl rfl rfl rfl rfl ?_
              refine w_guard_no rfl 40 rfl rfl rfl rfl rfl ?_
              refine w_guard_no rfl 40 rfl rfl rfl rfl rfl ?_
              refine w_guard_no rfl 40 rfl rfl rfl rfl rfl ?_
              refine w_unguard 34 rfl rfl ?_
              refine w_pure (p_pick_false (v := .bool false) rfl rfl) rfl rfl rfl ?_
              exact w_sub (Sub.cons rfl (Sub.skip rfl (Sub.skip rfl (Sub.skip rfl (Sub.skip rfl (Sub.skip rfl (Sub.skip rfl (Sub.skip rfl (Sub.refl _))))))))) hk
            refine w_pure (p_pick_false (v := .bool (decide ((la + wd) ≤ (k : Int)) && decide ((Ws.common mb (Ws.mapAt l wd (k + 1))) < least))) rfl rfl) rfl rfl rfl ?_
            exact w_sub (Sub.cons rfl (Sub.skip rfl (Sub.skip rfl (Sub.skip rfl (Sub.skip rfl (Sub.skip rfl (Sub.skip rfl (Sub.skip rfl (Sub.skip rfl (Sub.refl _)))))))))) hk
          · intro hb21 hk
            refine w_guard_no rfl 34 rfl rfl rfl rfl rfl ?_
            refine w_guard_no rfl 34 rfl rfl rfl rfl rfl ?_
            refine w_guard_no rfl 34 rfl rfl rfl rfl rfl ?_
            refine w_guard_no rfl 34 rfl rfl rfl rfl rfl ?_
            refine w_guard_no rfl 34 rfl rfl rfl rfl rfl ?_
            refine w_guard_no rfl 34 rfl rfl rfl rfl rfl ?_
            refine w_guard_no rfl 40 rfl rfl rfl rfl rfl ?_
            refine w_guard_no rfl 40 rfl rfl rfl rfl rfl ?_
            refine w_guard_no rfl 40 rfl rfl rfl rfl rfl ?_
            refine w_guard_no rfl 40 rfl rfl rfl rfl rfl ?_
            refine w_guard_no rfl 40 rfl rfl rfl rfl rfl ?_
            refine w_guard_no rfl 34 rfl rfl rfl rfl rfl ?_
            refine w_pure (p_pick_true (u := .bool true) rfl rfl) rfl rfl rfl ?_
            exact w_sub (Sub.cons rfl (Sub.skip rfl (Sub.skip rfl (Sub.skip rfl (Sub.skip rfl (Sub.skip rfl (Sub.skip rfl (Sub.skip rfl (Sub.skip rfl (Sub.skip rfl (Sub.skip rfl (Sub.skip rfl (Sub.skip rfl (Sub.skip rfl (Sub.skip rfl (Sub.refl _)))))))))))))))) hk
          refine w_nil ?_
          refine q_then ?_
          refine c_cond (b := (((k : Int) == 0) || (decide ((la + wd) ≤ (k : Int)) && decide ((Ws.common mb (Ws.mapAt l wd (k + 1))) < least)))) rfl (fun hc23 => ?_) (fun hc23 => ?_)
          · simp only [Bool.or_eq_true, beq_iff_eq, Bool.and_eq_true, decide_eq_true_eq] at hc23
            have hcc := hc23
            refine c_seq ?_
            refine c_region ?_
            refine o_pure (p_move (v := .map (some x_)) rfl) rfl rfl rfl ?_
            refine o_callX (pre := []) (R := [outer W1 [e0], loopE l_ (recd rc .busy none), own tInt Sol aol col ol, mapE kInt (fun z : Int => .int .i64 z) Bq mb, box B8 [.int .i64 la] 3, box B7 [.map (some Bq)] 110, box B6 [.slice aol ol.length col] 45, mapE kInt (fun z : Int => .int .i64 z) x_ (Ws.mapAt l wd (k + 1))]) rfl (clone_ok (Ws.mapAt l wd (k + 1)) x_) hf80 rfl (fun w hw => (hw.at (i := 7) rfl).here) rfl ?_
            rintro B24
            refine o_asH (H' := [mapE kInt (fun z : Int => .int .i64 z) B24 (Ws.mapAt l wd (k + 1)), outer W1 [e0], loopE l_ (recd rc .busy none), own tInt Sol aol col ol, mapE kInt (fun z : Int => .int .i64 z) Bq mb, box B8 [.int .i64 la] 3, box B7 [.map (some Bq)] 110, box B6 [.slice aol ol.length col] 45, mapE kInt (fun z : Int => .int .i64 z) x_ (Ws.mapAt l wd (k + 1))]) rfl ?_
            refine o_pure (p_move (v := .int .i64 (k : Int)) rfl) rfl rfl rfl ?_
            refine o_store (i := 6) (v := .map (some B24)) (cs' := [.map (some B24)]) rfl rfl rfl sz110 rfl rfl rfl ?_
            refine o_store (i := 5) (v := .int .i64 (k : Int)) (cs' := [.int .i64 (k : Int)]) rfl rfl rfl sz3 rfl rfl rfl ?_
            refine o_nil ?_
            refine q_then ?_
            refine c_region ?_
            refine o_pure (p_load (i := 7) (v := .slice aol ol.length col) rfl rfl sh45 rfl) rfl rfl rfl ?_
            refine o_pure (p_move (v := .int .i64 (k : Int)) rfl) rfl rfl rfl ?_
            refine o_buildSlice (m := 1) (T := tInt) (L := [(k : Int)]) (vs := [.int .i64 (k : Int)]) rfl rfl rfl rfl Try.underlying45 sz3 (by decide) ze3 rfl (by decide) rfl (fun S25 a26 => ?_)
            refine o_append (i := 4) (L := ol) (M := [(k : Int)]) (T := tInt) rfl rfl rfl (rd_own (i := 0) rfl) Try.underlying45 Try.underlying45 (by intro k h; cases h) el3 (by intro z; simp [tInt, one1]) (by decide) (by first | omega | (simp only [List.length_cons, List.length_nil]; omega) | (simp only [List.length_append, List.length_cons, List.length_nil, List.length_take, List.length_drop]; omega)) rfl (fun a28 c29 S30 => ?_)
            refine o_store (i := 8) (v := .slice a28 (ol ++ [(k : Int)]).length c29) (cs' := [.slice a28 (ol ++ [(k : Int)]).length c29]) rfl rfl rfl sz45 rfl rfl rfl ?_
            refine o_nil ?_
            refine q_block_normal ?_
            refine q_next ((k : Int), (some B24), (Ws.mapAt l wd (k + 1)), (ol ++ [(k : Int)]), a28, c29, S30) ?_ (fun w hw => hw.pick (H' := [outer W1 [e0], loopE l_ (recd rc .busy none), own tInt S30 a28 c29 (ol ++ [(k : Int)]), mapE kInt (fun z : Int => .int .i64 z) B24 (Ws.mapAt l wd (k + 1)), box B8 [.int .i64 (k : Int)] 3, box B7 [.map (some B24)] 110, box B6 [.slice a28 (ol ++ [(k : Int)]).length c29] 45, mapE kInt (fun z : Int => .int .i64 z) x_ (Ws.mapAt l wd (k + 1))]) [2, 3, 4, 1, 6, 7, 8, 9] (by decide) rfl)
            first | (exfalso; have h9 := hbq.none0 rfl; omega) | exact hI.take_ hwb.1 hk (by first | omega | assumption | simp_all) | exact hI.skip (by first | assumption | simp_all)
          · simp only [Bool.or_eq_false_iff, beq_eq_false_iff_ne, ne_eq, Bool.and_eq_false_iff, decide_eq_false_iff_not, Int.not_le, Int.not_lt] at hc23
            have hcc := hc23
            refine c_skip ?_
            refine q_block_normal ?_
            refine q_next (la, (some Bq), mb, ol, aol, col, Sol) ?_ (fun w hw => hw.pick (H' := [outer W1 [e0], loopE l_ (recd rc .busy none), own tInt Sol aol col ol, mapE kInt (fun z : Int => .int .i64 z) Bq mb, box B8 [.int .i64 la] 3, box B7 [.map (some Bq)] 110, box B6 [.slice aol ol.length col] 45, mapE kInt (fun z : Int => .int .i64 z) x_ (Ws.mapAt l wd (k + 1))]) [0, 1, 2, 3, 4, 5, 6, 7] (by decide) rfl)
            first | (exfalso; have h9 := hbq.none0 rfl; omega) | exact hI.take_ hwb.1 hk (by first | omega | assumption | simp_all) | exact hI.skip (by first | assumption | simp_all)
      · rintro D ⟨la, bn, mb, ol, aol, col, Sol⟩ hI
        show SQ _ 56 w0 _ _ _ [defE D, own tInt Sol aol col ol, mapO kInt (fun z : Int => .int .i64 z) bn mb, box B8 [.int .i64 la] 3, box B7 [.map bn] 110, box B6 [.slice aol ol.length col] 45, box B9 [.slice al l.length cl] 45, box B10 [.int .i64 wd] 3, box B2 [.int .i64 least] 3, box B1 [.int .i64 wd] 3, base w0]
        refine q_block_normal (q_then ?_)
        refine c_seq ?_
        refine c_region ?_
        refine o_pure (p_load (i := 5) (v := .slice aol ol.length col) rfl rfl sh45 rfl) rfl rfl rfl ?_
        refine o_pure (p_assign (v := .slice aol ol.length col) rfl) rfl rfl rfl ?_
        refine o_pure (p_assign (v := .int .i64 0) rfl) rfl rfl rfl ?_
        refine o_nil ?_
        refine q_then ?_
        refine c_ret ?_
        refine q_marks (i := 0) rfl ?_
        show SQ _ 56 w0 _ _ _ [own tInt Sol aol col ol, mapO kInt (fun z : Int => .int .i64 z) bn mb, box B8 [.int .i64 la] 3, box B7 [.map bn] 110, box B6 [.slice aol ol.length col] 45, box B9 [.slice al l.length cl] 45, box B10 [.int .i64 wd] 3, box B2 [.int .i64 least] 3, box B1 [.int .i64 wd] 3, base w0]
        refine q_marks0 ?_
        have hr0 : (ol : List Int) = (Ws.phases l wd least) := by
          first | exact (Ws.ph2 hbad).1.symm | exact (Ws.ph2 hbad).2.symm | exact hz.1.symm | exact hz.2.symm | exact hI.done.trans hz.2.symm | rfl
        have hr1 : (0 : Int) = (Ws.phErr l wd least) := by
          first | exact (Ws.ph2 hbad).1.symm | exact (Ws.ph2 hbad).2.symm | exact hz.1.symm | exact hz.2.symm | exact hI.done.trans hz.2.symm | rfl
        refine q_endM (p := (aol, col)) Sol (rt2 rfl (r_tmp rfl) (r_tmp rfl)) (i := 9) rfl ?_ ?_ ?_
        · exact (by have hcc := congr (congrArg (fun (y0 : List Int) (y1 : Int) => (.tuple #[.slice aol y0.length col, .int .i64 y1] : Value)) hr0) hr1; exact hcc)
        · exact fun w hw => hw.above (i := 9) (j := 0) (by decide) rfl rfl
        · intro w hw; exact Eq.mp (congrArg (fun y => SlO tInt _ w aol col y) hr0) ((hw.at (i := 0) rfl).here)
      · intro D c s h; exact h.elim
end Go.Proofs.Ythecfjipaepcgaa
