/- The walks, printed by a program from the translation and a specification. -/
import Derived.Test.YthecfjipaepcgaaWkF
import Derived.Test.YthecfjipaepcgaaWsLaw5
import Derived.Test.YthecfjipaepcgaaExLaw
import Derived.Test.YthecfjipaepcgaaWkW2
import Derived.Test.YthecfjipaepcgaaWsK
namespace Go.Proofs.Ythecfjipaepcgaa
open Go.Sx Go.RowKit
set_option maxHeartbeats 8000000 in
set_option maxRecDepth 100000 in
theorem mkeys_ok (Bm : Nat) : FnX Try.prog 77 [.map (some Bm)] [] (fun _ => True) (Nat) (fun p => .func (.func 103) #[] #[.pointer (some ⟨p, 0, none⟩)]) (fun p => [box p [.map (some Bm)] 110]) := by
  refine fnX (nt := 4) (F0 := [(0, .map (some Bm))]) Try.func77 rfl Try.ntmps77 rfl rfl (fun w0 hpre => ?_)
  refine c_seq ?_
  refine c_region ?_
  refine o_box (v := .map (some Bm)) rfl rfl (fun B1 => ?_)
  refine o_pure (p_assign (v := .nilFunc) rfl) rfl rfl rfl ?_
  refine o_nil ?_
  refine q_then ?_
  refine c_seq ?_
  refine c_region ?_
  refine o_pure (p_makeFunc (vs := [.pointer (some ⟨B1, 0, none⟩)]) rfl) rfl rfl rfl ?_
  refine o_pure (p_assign (v := .func (.func 103) #[] #[.pointer (some ⟨B1, 0, none⟩)]) rfl) rfl rfl rfl ?_
  refine o_nil ?_
  refine q_then ?_
  refine c_ret ?_
  refine q_endX (p := (B1)) (rt1 rfl (r_tmp rfl)) rfl (fun w hw => ?_)
  exact hw.pick (H' := [outer w0 [], box B1 [.map (some Bm)] 110]) [1, 0] (by decide) rfl

set_option maxHeartbeats 8000000 in
set_option maxRecDepth 100000 in
theorem wset_ok (l : List Int) (al : Option Addr) (cl : Nat) (at_ : Int) (wd : Int) : FnM Try.prog 40 [.slice al l.length cl, .int .i64 at_, .int .i64 wd] (fun w => Rd tInt w al cl l) (Option Addr × Nat) (fun p => .tuple #[.slice p.1 (Ws.setR l at_ wd).length p.2, .int .i64 (Ws.setErr l at_ wd)]) (fun p S w => SlO tInt S w p.1 p.2 (Ws.setR l at_ wd)) := by
  refine fnMR (nt := 44) (F0 := [(0, .slice al l.length cl), (1, .int .i64 at_), (2, .int .i64 wd)]) Try.func40 rfl Try.ntmps40 rfl rfl (fun w0 hpre => ?_)
  have hl := hpre
  have hlhl := hl.2.1
  refine c_seq ?_
  refine c_region ?_
  refine o_box (v := .int .i64 at_) rfl rfl (fun B1 => ?_)
  refine o_alloc ze45 rfl (fun B2 => ?_)
  refine o_alloc ze23 rfl (fun B3 => ?_)
  refine o_nil ?_
  refine q_then ?_
  refine c_seq ?_
  refine c_region ?_
  refine o_pure (p_move (v := .slice al l.length cl) rfl) rfl rfl rfl ?_
  refine o_call0 (v := .int .i64 (Lru.trace l)) rfl (checkTrace_ok l al cl) hf73 (fun w hw => (rd_base (i := 3) rfl hl) w hw) rfl ?_
  refine o_pure (p_assign (v := .int .i64 (Lru.trace l)) rfl) rfl rfl rfl ?_
  refine o_nil ?_
  refine q_then ?_
  refine c_seq ?_
  refine c_seq ?_
  refine c_region ?_
  refine o_pure (p_move (v := .int .i64 (Lru.trace l)) rfl) rfl rfl rfl ?_
  refine o_pure (p_eq (p := (Lru.trace l)) (q := 0) rfl rfl) rfl rfl rfl ?_
  refine o_pure (p_move (v := .bool ((Lru.trace l) == 0)) rfl) rfl rfl rfl ?_
  refine o_and (p := 29) 14 ((decide (at_ < 0) || decide ((l.length : Int) ≤ at_)) || (!(Ws.okWin wd))) ?_ ?_ ?_
  · intro hb4 hk
    simp only [beq_iff_eq] at hb4
    refine o_unguard 15 rfl rfl ?_
    refine o_pure (p_load (i := 2) (v := .int .i64 at_) rfl rfl sh3 rfl) rfl rfl rfl ?_
    refine o_unguard 15 rfl rfl ?_
    refine o_pure (p_lt (p := at_) (q := 0) rfl rfl) rfl rfl rfl ?_
    refine o_unguard 15 rfl rfl ?_
    refine o_pure (p_move (v := .bool (decide (at_ < 0))) rfl) rfl rfl rfl ?_
    refine o_or (p := 23) 5 (decide ((l.length : Int) ≤ at_)) ?_ ?_ ?_
    · intro hb5 hk
      simp only [decide_eq_false_iff_not, Int.not_lt] at hb5
      refine o_unguard 18 rfl rfl ?_
      refine o_pure (p_load (i := 2) (v := .int .i64 at_) rfl rfl sh3 rfl) rfl rfl rfl ?_
      refine o_unguard 18 rfl rfl ?_
      refine o_pure (p_move (v := .slice al l.length cl) rfl) rfl rfl rfl ?_
      refine o_unguard 18 rfl rfl ?_
      refine o_pure (p_len_slice (len := l.length) rfl rfl Try.underlying45) rfl rfl rfl ?_
      refine o_unguard 18 rfl rfl ?_
      refine o_pure (p_ge (p := at_) (q := (l.length : Int)) rfl rfl) rfl rfl rfl ?_
      refine o_unguard 15 rfl rfl ?_
      refine o_pure (p_pick_false (v := .bool (decide ((l.length : Int) ≤ at_))) rfl rfl) rfl rfl rfl ?_
      exact o_sub (Sub.cons rfl (Sub.skip rfl (Sub.skip rfl (Sub.skip rfl (Sub.skip rfl (Sub.skip rfl (Sub.skip rfl (Sub.refl _)))))))) hk
    · intro hb5 hk
      refine o_guard_no rfl 18 rfl rfl rfl rfl rfl ?_
      refine o_guard_no rfl 18 rfl rfl rfl rfl rfl ?_
      refine o_guard_no rfl 18 rfl rfl rfl rfl rfl ?_
      refine o_guard_no rfl 18 rfl rfl rfl rfl rfl ?_
      refine o_unguard 15 rfl rfl ?_
      refine o_pure (p_pick_true (u := .bool true) rfl rfl) rfl rfl rfl ?_
      exact o_sub (Sub.cons rfl (Sub.skip rfl (Sub.skip rfl (Sub.skip rfl (Sub.skip rfl (Sub.skip rfl (Sub.skip rfl (Sub.refl _)))))))) hk
    refine o_unguard 15 rfl rfl ?_
    refine o_pure (p_move (v := .bool (decide (at_ < 0) || decide ((l.length : Int) ≤ at_))) rfl) rfl rfl rfl ?_
    refine o_or (p := 28) 4 (!(Ws.okWin wd)) ?_ ?_ ?_
    · intro hb6 hk
      simp only [Bool.or_eq_false_iff, decide_eq_false_iff_not, Int.not_lt, Int.not_le] at hb6
      refine o_unguard 24 rfl rfl ?_
      refine o_pure (p_move (v := .int .i64 wd) rfl) rfl rfl rfl ?_
      refine o_unguard 24 rfl rfl ?_
      refine o_call0 (v := .bool (Ws.okWin wd)) rfl (wwindow_ok wd) hf74 (fun _ _ => trivial) rfl ?_
      refine o_unguard 24 rfl rfl ?_
      refine o_pure (p_not (b := (Ws.okWin wd)) rfl) rfl rfl rfl ?_
      refine o_unguard 15 rfl rfl ?_
      refine o_pure (p_pick_false (v := .bool (!(Ws.okWin wd))) rfl rfl) rfl rfl rfl ?_
      exact o_sub (Sub.cons rfl (Sub.skip rfl (Sub.skip rfl (Sub.skip rfl (Sub.skip rfl (Sub.skip rfl (Sub.refl _))))))) hk
    · intro hb6 hk
      refine o_guard_no rfl 24 rfl rfl rfl rfl rfl ?_
      refine o_guard_no rfl 24 rfl rfl rfl rfl rfl ?_
      refine o_guard_no rfl 24 rfl rfl rfl rfl rfl ?_
      refine o_unguard 15 rfl rfl ?_
      refine o_pure (p_pick_true (u := .bool true) rfl rfl) rfl rfl rfl ?_
      exact o_sub (Sub.cons rfl (Sub.skip rfl (Sub.skip rfl (Sub.skip rfl (Sub.skip rfl (Sub.skip rfl (Sub.refl _))))))) hk
    refine o_pure (p_pick_true (u := .bool ((decide (at_ < 0) || decide ((l.length : Int) ≤ at_)) || (!(Ws.okWin wd)))) rfl rfl) rfl rfl rfl ?_
    exact o_sub (Sub.cons rfl (Sub.skip rfl (Sub.skip rfl (Sub.skip rfl (Sub.skip rfl (Sub.skip rfl (Sub.skip rfl (Sub.refl _)))))))) hk
  · intro hb4 hk
    refine o_guard_no rfl 15 rfl rfl rfl rfl rfl ?_
    refine o_guard_no rfl 15 rfl rfl rfl rfl rfl ?_
    refine o_guard_no rfl 15 rfl rfl rfl rfl rfl ?_
    refine o_guard_no rfl 18 rfl rfl rfl rfl rfl ?_
    refine o_guard_no rfl 18 rfl rfl rfl rfl rfl ?_
    refine o_guard_no rfl 18 rfl rfl rfl rfl rfl ?_
    refine o_guard_no rfl 18 rfl rfl rfl rfl rfl ?_
    refine o_guard_no rfl 15 rfl rfl rfl rfl rfl ?_
    refine o_guard_no rfl 15 rfl rfl rfl rfl rfl ?_
    refine o_guard_no rfl 24 rfl rfl rfl rfl rfl ?_
    refine o_guard_no rfl 24 rfl rfl rfl rfl rfl ?_
    refine o_guard_no rfl 24 rfl rfl rfl rfl rfl ?_
    refine o_guard_no rfl 15 rfl rfl rfl rfl rfl ?_
    refine o_pure (p_pick_false (v := .bool false) rfl rfl) rfl rfl rfl ?_
    exact o_sub (Sub.cons rfl (Sub.skip rfl (Sub.skip rfl (Sub.skip rfl (Sub.skip rfl (Sub.skip rfl (Sub.skip rfl (Sub.skip rfl (Sub.skip rfl (Sub.skip rfl (Sub.skip rfl (Sub.skip rfl (Sub.skip rfl (Sub.skip rfl (Sub.skip rfl (Sub.skip rfl (Sub.refl _))))))))))))))))) hk
  refine o_nil ?_
  refine q_then ?_
  refine c_cond (b := (((Lru.trace l) == 0) && ((decide (at_ < 0) || decide ((l.length : Int) ≤ at_)) || (!(Ws.okWin wd))))) rfl (fun hc7 => ?_) (fun hc7 => ?_)
  · simp only [Bool.and_eq_true, beq_iff_eq, Bool.or_eq_true, decide_eq_true_eq, Bool.not_eq_true'] at hc7
    have hbad := hc7
    refine c_region ?_
    refine o_pure (p_assign (v := .int .i64 3) rfl) rfl rfl rfl ?_
    refine o_nil ?_
    refine q_then ?_
    refine c_seq ?_
    refine c_seq ?_
    refine c_region ?_
    refine o_pure (p_move (v := .int .i64 3) rfl) rfl rfl rfl ?_
    refine o_pure (p_ne (p := 3) (q := 0) rfl rfl) rfl rfl rfl ?_
    refine o_nil ?_
    refine q_then ?_
    refine c_true rfl ?_
    refine c_seq ?_
    refine c_region ?_
    refine o_pure (p_move (v := .int .i64 3) rfl) rfl rfl rfl ?_
    refine o_store (i := 1) (v := .slice none 0 0) (cs' := [.slice none 0 0]) rfl rfl rfl sz45 rfl rfl rfl ?_
    refine o_store (i := 0) (v := .int .i64 3) (cs' := [.int .i64 3]) rfl rfl rfl sz23 rfl rfl rfl ?_
    refine o_nil ?_
    refine q_then ?_
    refine c_ret ?_
    refine q_then_ret ?_
    refine q_marks0 ?_
    have hr0 : ([] : List Int) = (Ws.setR l at_ wd) := by
      first | exact (Ws.set2b hbad).1.symm | exact (Ws.set2b hbad).2.symm | exact hz.1.symm | exact hz.2.symm | exact hI.1 | exact hI.2.trans hz.1.symm | rfl
    have hr1 : (3 : Int) = (Ws.setErr l at_ wd) := by
      first | exact (Ws.set2b hbad).1.symm | exact (Ws.set2b hbad).2.symm | exact hz.1.symm | exact hz.2.symm | exact hI.1 | exact hI.2.trans hz.1.symm | rfl
    refine q_endM (p := (none, 0)) (fun _ => False) (rt2 rfl (r_cell1 (i := 1) rfl rfl sh45) (r_cell1 (i := 0) rfl rfl sh23)) (i := 3) rfl ?_ ?_ ?_
    · exact (by have hcc := congr (congrArg (fun (y0 : List Int) (y1 : Int) => (.tuple #[.slice none y0.length 0, .int .i64 y1] : Value)) hr0) hr1; exact hcc)
    · intro w hw b hb; exact hb.elim
    · intro w hw; exact Eq.mp (congrArg (fun y => SlO tInt _ w none 0 y) hr0) (SlO.nil tInt w)
  · simp only [Bool.and_eq_false_iff, beq_eq_false_iff_ne, ne_eq, Bool.or_eq_false_iff, decide_eq_false_iff_not, Int.not_lt, Int.not_le, Bool.not_eq_false'] at hc7
    have hgood := hc7
    refine c_skip ?_
    refine q_then ?_
    refine c_seq ?_
    refine c_seq ?_
    refine c_region ?_
    refine o_pure (p_move (v := .int .i64 (Lru.trace l)) rfl) rfl rfl rfl ?_
    refine o_pure (p_ne (p := (Lru.trace l)) (q := 0) rfl rfl) rfl rfl rfl ?_
    refine o_nil ?_
    refine q_then ?_
    refine c_cond (b := ((Lru.trace l) != 0)) rfl (fun hc8 => ?_) (fun hc8 => ?_)
    · simp only [bne_iff_ne, ne_eq] at hc8
      have hz := Ws.set1 (i := at_) (w := wd) hc8
      refine c_seq ?_
      refine c_region ?_
      refine o_pure (p_move (v := .int .i64 (Lru.trace l)) rfl) rfl rfl rfl ?_
      refine o_store (i := 1) (v := .slice none 0 0) (cs' := [.slice none 0 0]) rfl rfl rfl sz45 rfl rfl rfl ?_
      refine o_store (i := 0) (v := .int .i64 (Lru.trace l)) (cs' := [.int .i64 (Lru.trace l)]) rfl rfl rfl sz23 rfl rfl rfl ?_
      refine o_nil ?_
      refine q_then ?_
      refine c_ret ?_
      refine q_then_ret ?_
      refine q_marks0 ?_
      have hr0 : ([] : List Int) = (Ws.setR l at_ wd) := by
        first | exact (Ws.set2b hbad).1.symm | exact (Ws.set2b hbad).2.symm | exact hz.1.symm | exact hz.2.symm | exact hI.1 | exact hI.2.trans hz.1.symm | rfl
      have hr1 : ((Lru.trace l) : Int) = (Ws.setErr l at_ wd) := by
        first | exact (Ws.set2b hbad).1.symm | exact (Ws.set2b hbad).2.symm | exact hz.1.symm | exact hz.2.symm | exact hI.1 | exact hI.2.trans hz.1.symm | rfl
      refine q_endM (p := (none, 0)) (fun _ => False) (rt2 rfl (r_cell1 (i := 1) rfl rfl sh45) (r_cell1 (i := 0) rfl rfl sh23)) (i := 3) rfl ?_ ?_ ?_
      · exact (by have hcc := congr (congrArg (fun (y0 : List Int) (y1 : Int) => (.tuple #[.slice none y0.length 0, .int .i64 y1] : Value)) hr0) hr1; exact hcc)
      · intro w hw b hb; exact hb.elim
      · intro w hw; exact Eq.mp (congrArg (fun y => SlO tInt _ w none 0 y) hr0) (SlO.nil tInt w)
    · simp only [bne_eq_false_iff_eq] at hc8
      have hro : Lru.trace l = 0 ∧ (0 ≤ at_ ∧ at_ < (l.length : Int) ∧ Ws.okWin wd = true) := by refine ⟨hc8, ?_⟩; simp_all
      have hz := Ws.set3 hro.1 hro.2
      have hwb := Ws.okWin_bd hro.2.2.2
      have h200 := (Lru.trace_ok.1 hro.1).1
      refine c_skip ?_
      refine q_then ?_
      refine c_seq ?_
      refine c_seq ?_
      refine c_region ?_
      refine o_pure (p_move (v := .slice al l.length cl) rfl) rfl rfl rfl ?_
      refine o_pure (p_move (v := .int .i64 wd) rfl) rfl rfl rfl ?_
      refine o_callX (pre := []) (R := [box B3 [.int .i64 0] 23, box B2 [.slice none 0 0] 45, box B1 [.int .i64 at_] 3, base w0]) rfl (wsets_ok l al cl wd) hf75 rfl (fun _ _ => trivial) rfl ?_
      rintro ⟨B9, B10⟩
      refine o_asH (H' := [box B9 [.slice al l.length cl] 45, box B10 [.int .i64 wd] 3, box B3 [.int .i64 0] 23, box B2 [.slice none 0 0] 45, box B1 [.int .i64 at_] 3, base w0]) rfl ?_
      refine o_nil ?_
      refine q_then ?_
      refine c_block ?_
      refine c_ownNil tInt ?_
      refine c_rangeFunc (f := 100) (caps := [.pointer (some ⟨B9, 0, none⟩), .pointer (some ⟨B10, 0, none⟩)]) (Pr := (fun e w => ((box B9 [.slice al l.length cl] 45).A w ∧ (outer w [e]).S B9) ∧ SlR tInt (outer w [e]).S w al cl l ∧ ((box B10 [.int .i64 wd] 3).A w ∧ (outer w [e]).S B10))) (X := Nat) (encs := (fun x k => [.int .i64 (k : Int), .map (some x)])) (E := (fun x k => [mapE kInt (fun z : Int => .int .i64 z) x (Ws.mapAt l wd (k + 1))])) (N := l.length) rfl hf100 (sets1_ok l al cl B9 wd B10 (by omega)) (fun _ _ => rfl) (by decide) (St := Int × List Int × Option Addr × Nat × (Nat → Prop))
        (fun ⟨en, ol, aol, col, Sol⟩ => [own tInt Sol aol col ol, box B3 [.int .i64 en] 23, box B2 [.slice aol ol.length col] 45])
        (fun k ⟨en, ol, aol, col, Sol⟩ => k ≤ at_.toNat ∧ ol = [] ∧ en = 0)
        (fun c ⟨en, ol, aol, col, Sol⟩ => (c = .ret ∧ (ol = Ws.setR l at_ wd ∧ en = 0)))
        [box B9 [.slice al l.length cl] 45, box B10 [.int .i64 wd] 3, box B1 [.int .i64 at_] 3, base w0]
        (0, [], none, 0, (fun _ => False)) ?_ ?_ ?_ ?_ ?_ ?_
      · exact ⟨Nat.zero_le _, rfl, rfl⟩
      · exact fun w hw => hw.pick (H' := [own tInt (fun _ => False) none 0 ([]), box B3 [.int .i64 0] 23, box B2 [.slice none 0 0] 45, box B9 [.slice al l.length cl] 45, box B10 [.int .i64 wd] 3, box B1 [.int .i64 at_] 3, base w0]) [0, 3, 4, 1, 2, 5, 6] (by decide) rfl
      · intro D e0 W1 hW1
        exact ⟨boxX (i := 2) (js := [0]) rfl (by decide) rfl W1 hW1, (rdX (i := 5) (js := [0]) rfl (by decide) rfl (fun _ hA => slR_base hl hA)) W1 hW1, boxX (i := 3) (js := [0]) rfl (by decide) rfl W1 hW1⟩
      · rintro l_ rc D e0 W1 hW1 x_ k ⟨en, ol, aol, col, Sol⟩ hk hI
        have hobr0_B1 := boxX (i := 4) (B := B1) (cs := [.int .i64 at_]) (U := 3) (js := [0]) (pre := [e0]) rfl (by decide) rfl W1 hW1
        refine c_seq ?_
        refine c_region ?_
        refine o_pure (p_assign (v := .int .i64 (k : Int)) rfl) rfl rfl rfl ?_
        refine o_nil ?_
        refine q_then ?_
        refine c_region ?_
        refine o_pure (p_assign (v := .map (some x_)) rfl) rfl rfl rfl ?_
        refine o_nil ?_
        refine q_begin (i := 1) rfl ?_
        refine c_block ?_
        refine c_seq ?_
        refine c_region ?_
        refine o_pure (p_move (v := .int .i64 (k : Int)) rfl) rfl rfl rfl ?_
        refine o_pure (p_loadR (v := .int .i64 at_) rfl (rbox_outer (i := 0) rfl hobr0_B1) sh3 rfl) rfl rfl rfl ?_
        refine o_pure (p_eq (p := (k : Int)) (q := at_) rfl rfl) rfl rfl rfl ?_
        refine o_nil ?_
        refine q_then ?_
        refine c_cond (b := ((k : Int) == at_)) rfl (fun hc12 => ?_) (fun hc12 => ?_)
        · simp only [beq_iff_eq] at hc12
          have hat := hc12
          refine c_seq ?_
          refine c_region ?_
          refine o_pure (p_move (v := .map (some x_)) rfl) rfl rfl rfl ?_
          refine o_callX (pre := []) (R := [outer W1 [e0], loopE l_ (recd rc .busy none), own tInt Sol aol col ol, box B3 [.int .i64 en] 23, box B2 [.slice aol ol.length col] 45, mapE kInt (fun z : Int => .int .i64 z) x_ (Ws.mapAt l wd (k + 1))]) rfl (mkeys_ok x_) hf77 rfl (fun _ _ => trivial) rfl ?_
          rintro B13
          refine o_asH (H' := [box B13 [.map (some x_)] 110, outer W1 [e0], loopE l_ (recd rc .busy none), own tInt Sol aol col ol, box B3 [.int .i64 en] 23, box B2 [.slice aol ol.length col] 45, mapE kInt (fun z : Int => .int .i64 z) x_ (Ws.mapAt l wd (k + 1))]) rfl ?_
          refine o_callM rfl (sorted_ok (Ws.mapAt l wd (k + 1)) x_ B13 (Ws.map_srt hwb.1 (by omega) hro.1)) hf76 (fun w hw => ⟨(hw.at (i := 0) rfl).here, (hw.at (i := 6) rfl).here⟩) rfl (fun _ _ _ _ ha hA => SlO.agree ha hA) ?_
          rintro ⟨a16, c17⟩ S14
          refine o_know (fun w hw => own_len (i := 0) (T := tInt) hw rfl) (fun hlr18 => ?_)
          refine o_store (i := 6) (v := .slice a16 (sortK (Ws.mapAt l wd (k + 1))).length c17) (cs' := [.slice a16 (sortK (Ws.mapAt l wd (k + 1))).length c17]) rfl rfl rfl sz45 rfl rfl rfl ?_
          refine o_store (i := 5) (v := .int .i64 0) (cs' := [.int .i64 0]) rfl rfl rfl sz23 rfl rfl rfl ?_
          refine o_nil ?_
          refine q_then ?_
          refine c_ret ?_
          refine q_block_ret ?_
          refine q_leave (0, (sortK (Ws.mapAt l wd (k + 1))), a16, c17, S14) ?_ (fun w hw => hw.pick (H' := [outer W1 [e0], loopE l_ (recd rc .busy none), own tInt S14 a16 c17 (sortK (Ws.mapAt l wd (k + 1))), box B3 [.int .i64 0] 23, box B2 [.slice a16 (sortK (Ws.mapAt l wd (k + 1))).length c17] 45, mapE kInt (fun z : Int => .int .i64 z) x_ (Ws.mapAt l wd (k + 1))]) [2, 3, 0, 5, 6, 7] (by decide) rfl)
          refine ⟨rfl, ?_⟩
          exact ⟨by rw [hz.2, Ws.set, show at_.toNat = k by omega], rfl⟩
        · simp only [beq_eq_false_iff_ne, ne_eq] at hc12
          have hat := hc12
          refine c_skip ?_
          refine q_block_normal ?_
          refine q_next (en, ol, aol, col, Sol) ?_ (fun w hw => hw.pick (H' := [outer W1 [e0], loopE l_ (recd rc .busy none), own tInt Sol aol col ol, box B3 [.int .i64 en] 23, box B2 [.slice aol ol.length col] 45, mapE kInt (fun z : Int => .int .i64 z) x_ (Ws.mapAt l wd (k + 1))]) [0, 1, 2, 3, 4, 5] (by decide) rfl)
          first | exact ⟨by omega, hI.2⟩
      · rintro D ⟨en, ol, aol, col, Sol⟩ hI
        exfalso; omega
      · rintro D c ⟨en, ol, aol, col, Sol⟩ hx
        rcases hx with ⟨rfl, hI⟩
        · show SC _ _ Try.prog 44 w0 _ _ _ [defE D, own tInt Sol aol col ol, box B3 [.int .i64 en] 23, box B2 [.slice aol ol.length col] 45, box B9 [.slice al l.length cl] 45, box B10 [.int .i64 wd] 3, box B1 [.int .i64 at_] 3, base w0]
          refine c_ret ?_
          refine q_block_ret (q_then_ret ?_)
          refine q_marks (i := 0) rfl ?_
          show SQ _ 44 w0 _ _ _ [own tInt Sol aol col ol, box B3 [.int .i64 en] 23, box B2 [.slice aol ol.length col] 45, box B9 [.slice al l.length cl] 45, box B10 [.int .i64 wd] 3, box B1 [.int .i64 at_] 3, base w0]
          refine q_marks0 ?_
          have hr0 : (ol : List Int) = (Ws.setR l at_ wd) := by
            first | exact (Ws.set2b hbad).1.symm | exact (Ws.set2b hbad).2.symm | exact hz.1.symm | exact hz.2.symm | exact hI.1 | exact hI.2.trans hz.1.symm | rfl
          have hr1 : (en : Int) = (Ws.setErr l at_ wd) := by
            first | exact (Ws.set2b hbad).1.symm | exact (Ws.set2b hbad).2.symm | exact hz.1.symm | exact hz.2.symm | exact hI.1 | exact hI.2.trans hz.1.symm | rfl
          refine q_endM (p := (aol, col)) Sol (rt2 rfl (r_cell1 (i := 2) rfl rfl sh45) (r_cell1 (i := 1) rfl rfl sh23)) (i := 6) rfl ?_ ?_ ?_
          · exact (by have hcc := congr (congrArg (fun (y0 : List Int) (y1 : Int) => (.tuple #[.slice aol y0.length col, .int .i64 y1] : Value)) hr0) hr1; exact hcc)
          · exact fun w hw => hw.above (i := 6) (j := 0) (by decide) rfl rfl
          · intro w hw; exact Eq.mp (congrArg (fun y => SlO tInt _ w aol col y) hr0) ((hw.at (i := 0) rfl).here)

set_option maxHeartbeats 8000000 in
set_option maxRecDepth 100000 in
theorem wsizes_ok (l : List Int) (al : Option Addr) (cl : Nat) (wd : Int) : FnM Try.prog 41 [.slice al l.length cl, .int .i64 wd] (fun w => Rd tInt w al cl l) (Option Addr × Nat) (fun p => .tuple #[.slice p.1 (Ws.sizes l wd).length p.2, .int .i64 (Ws.check l wd)]) (fun p S w => SlO tInt S w p.1 p.2 (Ws.sizes l wd)) := by
  refine fnMR (nt := 27) (F0 := [(0, .slice al l.length cl), (1, .int .i64 wd)]) Try.func41 rfl Try.ntmps41 rfl rfl (fun w0 hpre => ?_)
  have hl := hpre
  have hlhl := hl.2.1
  refine c_seq ?_
  refine c_region ?_
  refine o_pure (p_assign (v := .slice none 0 0) rfl) rfl rfl rfl ?_
  refine o_pure (p_assign (v := .int .i64 0) rfl) rfl rfl rfl ?_
  refine o_nil ?_
  refine q_then ?_
  refine c_seq ?_
  refine c_seq ?_
  refine c_region ?_
  refine o_pure (p_move (v := .slice al l.length cl) rfl) rfl rfl rfl ?_
  refine o_pure (p_move (v := .int .i64 wd) rfl) rfl rfl rfl ?_
  refine o_call0 (v := .int .i64 (Ws.check l wd)) rfl (wcheck_ok l al cl wd) hf78 (fun w hw => (rd_base (i := 0) rfl hl) w hw) rfl ?_
  refine o_pure (p_assign (v := .int .i64 (Ws.check l wd)) rfl) rfl rfl rfl ?_
  refine o_nil ?_
  refine q_then ?_
  refine c_seq ?_
  refine c_region ?_
  refine o_pure (p_move (v := .int .i64 (Ws.check l wd)) rfl) rfl rfl rfl ?_
  refine o_pure (p_ne (p := (Ws.check l wd)) (q := 0) rfl rfl) rfl rfl rfl ?_
  refine o_nil ?_
  refine q_then ?_
  refine c_cond (b := ((Ws.check l wd) != 0)) rfl (fun hc1 => ?_) (fun hc1 => ?_)
  · simp only [bne_iff_ne, ne_eq] at hc1
    refine c_seq ?_
    refine c_region ?_
    refine o_pure (p_move (v := .int .i64 (Ws.check l wd)) rfl) rfl rfl rfl ?_
    refine o_pure (p_assign (v := .slice none 0 0) rfl) rfl rfl rfl ?_
    refine o_pure (p_assign (v := .int .i64 (Ws.check l wd)) rfl) rfl rfl rfl ?_
    refine o_nil ?_
    refine q_then ?_
    refine c_ret ?_
    refine q_then_ret ?_
    refine q_marks0 ?_
    have hr0 : ([] : List Int) = (Ws.sizes l wd) := by
      first | exact Ws.sz_end hI hck | exact hck.symm | exact Ws.sz_bad (by assumption) | rfl
    refine q_endM (p := (none, 0)) (fun _ => False) (rt2 rfl (r_tmp rfl) (r_tmp rfl)) (i := 0) rfl ?_ ?_ ?_
    · exact (by have hcc := congrArg (fun (y0 : List Int) => (.tuple #[.slice none y0.length 0, .int .i64 (Ws.check l wd)] : Value)) hr0; exact hcc)
    · intro w hw b hb; exact hb.elim
    · intro w hw; exact Eq.mp (congrArg (fun y => SlO tInt _ w none 0 y) hr0) (SlO.nil tInt w)
  · simp only [bne_eq_false_iff_eq] at hc1
    have hck := hc1
    have hok := Ws.chk_ok hc1
    have hwb := Ws.okWin_bd hok.2.1
    refine c_skip ?_
    refine q_then ?_
    refine c_seq ?_
    refine c_region ?_
    refine o_alloc ze45 rfl (fun B2 => ?_)
    refine o_nil ?_
    refine q_then ?_
    refine c_seq ?_
    refine c_seq ?_
    refine c_region ?_
    refine o_pure (p_move (v := .slice al l.length cl) rfl) rfl rfl rfl ?_
    refine o_pure (p_move (v := .int .i64 wd) rfl) rfl rfl rfl ?_
    refine o_callX (pre := []) (R := [box B2 [.slice none 0 0] 45, base w0]) rfl (wsets_ok l al cl wd) hf75 rfl (fun _ _ => trivial) rfl ?_
    rintro ⟨B3, B4⟩
    refine o_asH (H' := [box B3 [.slice al l.length cl] 45, box B4 [.int .i64 wd] 3, box B2 [.slice none 0 0] 45, base w0]) rfl ?_
    refine o_nil ?_
    refine q_then ?_
    refine c_block ?_
    refine c_ownNil tInt ?_
    refine c_rangeFunc (f := 100) (caps := [.pointer (some ⟨B3, 0, none⟩), .pointer (some ⟨B4, 0, none⟩)]) (Pr := (fun e w => ((box B3 [.slice al l.length cl] 45).A w ∧ (outer w [e]).S B3) ∧ SlR tInt (outer w [e]).S w al cl l ∧ ((box B4 [.int .i64 wd] 3).A w ∧ (outer w [e]).S B4))) (X := Nat) (encs := (fun x k => [.int .i64 (k : Int), .map (some x)])) (E := (fun x k => [mapE kInt (fun z : Int => .int .i64 z) x (Ws.mapAt l wd (k + 1))])) (N := l.length) rfl hf100 (sets1_ok l al cl B3 wd B4 (by omega)) (fun _ _ => rfl) (by decide) (St := List Int × Option Addr × Nat × (Nat → Prop))
      (fun ⟨ol, aol, col, Sol⟩ => [own tInt Sol aol col ol, box B2 [.slice aol ol.length col] 45])
      (fun k ⟨ol, aol, col, Sol⟩ => ol = (List.range k).map (Ws.size l wd))
      (fun c ⟨ol, aol, col, Sol⟩ => False)
      [box B3 [.slice al l.length cl] 45, box B4 [.int .i64 wd] 3, base w0]
      ([], none, 0, (fun _ => False)) ?_ ?_ ?_ ?_ ?_ ?_
    · rfl
    · exact fun w hw => hw.pick (H' := [own tInt (fun _ => False) none 0 ([]), box B2 [.slice none 0 0] 45, box B3 [.slice al l.length cl] 45, box B4 [.int .i64 wd] 3, base w0]) [0, 3, 1, 2, 4] (by decide) rfl
    · intro D e0 W1 hW1
      exact ⟨boxX (i := 2) (js := [0]) rfl (by decide) rfl W1 hW1, (rdX (i := 4) (js := [0]) rfl (by decide) rfl (fun _ hA => slR_base hl hA)) W1 hW1, boxX (i := 3) (js := [0]) rfl (by decide) rfl W1 hW1⟩
    · rintro l_ rc D e0 W1 hW1 x_ k ⟨ol, aol, col, Sol⟩ hk hI
      have hll : ol.length = k := by rw [hI]; simp
      refine c_region ?_
      refine o_pure (p_assign (v := .map (some x_)) rfl) rfl rfl rfl ?_
      refine o_nil ?_
      refine q_begin (i := 1) rfl ?_
      refine c_block ?_
      refine c_region ?_
      refine o_pure (p_load (i := 3) (v := .slice aol ol.length col) rfl rfl sh45 rfl) rfl rfl rfl ?_
      refine o_pure (p_move (v := .map (some x_)) rfl) rfl rfl rfl ?_
      refine o_pure (p_len_map (i := 4) (K := kInt) (ve := (fun z : Int => .int .i64 z)) (m := (Ws.mapAt l wd (k + 1))) rfl rfl rfl Try.underlying110) rfl rfl rfl ?_
      refine o_buildSlice (m := 1) (T := tInt) (L := [((Ws.mapAt l wd (k + 1)).length : Int)]) (vs := [.int .i64 ((Ws.mapAt l wd (k + 1)).length : Int)]) rfl rfl rfl rfl Try.underlying45 sz3 (by decide) ze3 rfl (by decide) rfl (fun S6 a7 => ?_)
      refine o_append (i := 3) (L := ol) (M := [((Ws.mapAt l wd (k + 1)).length : Int)]) (T := tInt) rfl rfl rfl (rd_own (i := 0) rfl) Try.underlying45 Try.underlying45 (by intro k h; cases h) el3 (by intro z; simp [tInt, one1]) (by decide) (by first | omega | (simp only [List.length_cons, List.length_nil]; omega) | (simp only [List.length_append, List.length_cons, List.length_nil, List.length_take, List.length_drop]; omega)) rfl (fun a9 c10 S11 => ?_)
      refine o_store (i := 4) (v := .slice a9 (ol ++ [((Ws.mapAt l wd (k + 1)).length : Int)]).length c10) (cs' := [.slice a9 (ol ++ [((Ws.mapAt l wd (k + 1)).length : Int)]).length c10]) rfl rfl rfl sz45 rfl rfl rfl ?_
      refine o_nil ?_
      refine q_block_normal ?_
      refine q_next ((ol ++ [((Ws.mapAt l wd (k + 1)).length : Int)]), a9, c10, S11) ?_ (fun w hw => hw.pick (H' := [outer W1 [e0], loopE l_ (recd rc .busy none), own tInt S11 a9 c10 (ol ++ [((Ws.mapAt l wd (k + 1)).length : Int)]), box B2 [.slice a9 (ol ++ [((Ws.mapAt l wd (k + 1)).length : Int)]).length c10] 45, mapE kInt (fun z : Int => .int .i64 z) x_ (Ws.mapAt l wd (k + 1))]) [1, 2, 3, 4, 5] (by decide) rfl)
      exact Ws.sz_next hI
    · rintro D ⟨ol, aol, col, Sol⟩ hI
      show SQ _ 27 w0 _ _ _ [defE D, own tInt Sol aol col ol, box B2 [.slice aol ol.length col] 45, box B3 [.slice al l.length cl] 45, box B4 [.int .i64 wd] 3, base w0]
      refine q_block_normal (q_then ?_)
      refine c_seq ?_
      refine c_region ?_
      refine o_pure (p_load (i := 2) (v := .slice aol ol.length col) rfl rfl sh45 rfl) rfl rfl rfl ?_
      refine o_pure (p_assign (v := .slice aol ol.length col) rfl) rfl rfl rfl ?_
      refine o_pure (p_assign (v := .int .i64 0) rfl) rfl rfl rfl ?_
      refine o_nil ?_
      refine q_then ?_
      refine c_ret ?_
      refine q_marks (i := 0) rfl ?_
      show SQ _ 27 w0 _ _ _ [own tInt Sol aol col ol, box B2 [.slice aol ol.length col] 45, box B3 [.slice al l.length cl] 45, box B4 [.int .i64 wd] 3, base w0]
      refine q_marks0 ?_
      have hr0 : (ol : List Int) = (Ws.sizes l wd) := by
        first | exact Ws.sz_end hI hck | exact hck.symm | exact Ws.sz_bad (by assumption) | rfl
      have hr1 : (0 : Int) = (Ws.check l wd) := by
        first | exact Ws.sz_end hI hck | exact hck.symm | exact Ws.sz_bad (by assumption) | rfl
      refine q_endM (p := (aol, col)) Sol (rt2 rfl (r_tmp rfl) (r_tmp rfl)) (i := 4) rfl ?_ ?_ ?_
      · exact (by have hcc := congr (congrArg (fun (y0 : List Int) (y1 : Int) => (.tuple #[.slice aol y0.length col, .int .i64 y1] : Value)) hr0) hr1; exact hcc)
      · exact fun w hw => hw.above (i := 4) (j := 0) (by decide) rfl rfl
      · intro w hw; exact Eq.mp (congrArg (fun y => SlO tInt _ w aol col y) hr0) ((hw.at (i := 0) rfl).here)
    · intro D c s h; exact h.elim
end Go.Proofs.Ythecfjipaepcgaa
