/- The walks, printed by a program from the translation and a specification. -/
import Derived.Test.YthecfjipaepcgaaWkF
import Derived.Test.YthecfjipaepcgaaWsLaw5
import Derived.Test.YthecfjipaepcgaaExLaw
import Derived.Test.YthecfjipaepcgaaWkW6
import Derived.Test.YthecfjipaepcgaaWkW12
import Derived.Test.YthecfjipaepcgaaWkW13
namespace Go.Proofs.Ythecfjipaepcgaa
open Go.Sx Go.RowKit
set_option maxHeartbeats 8000000 in
set_option maxRecDepth 100000 in
theorem worksetSpec_ok (l : List Int) (al : Option Addr) (cl : Nat) (at_ : Int) (wd : Int) (least : Int) : Fn0 Try.prog 10 [.slice al l.length cl, .int .i64 at_, .int .i64 wd, .int .i64 least] (fun w => Rd tInt w al cl l) (.bool true) := by
  refine fn0 (nt := 144) (F0 := [(0, .slice al l.length cl), (1, .int .i64 at_), (2, .int .i64 wd), (3, .int .i64 least)]) Try.func10 rfl Try.ntmps10 rfl rfl (fun w0 hpre => ?_)
  have hl := hpre
  have hlhl := hl.2.1
  refine c_seq ?_
  refine c_region ?_
  refine o_pure (p_assign (v := .bool false) rfl) rfl rfl rfl ?_
  refine o_nil ?_
  refine q_then ?_
  refine c_seq ?_
  refine c_region ?_
  refine o_pure (p_move (v := .slice al l.length cl) rfl) rfl rfl rfl ?_
  refine o_pure (p_move (v := .int .i64 at_) rfl) rfl rfl rfl ?_
  refine o_pure (p_move (v := .int .i64 wd) rfl) rfl rfl rfl ?_
  refine o_callM rfl (wset_ok l al cl at_ wd) hf40 (fun w hw => (rd_base (i := 0) rfl hl) w hw) rfl (fun _ _ _ _ ha hA => SlO.agree ha hA) ?_
  rintro ⟨a3, c4⟩ S1
  refine o_know (fun w hw => own_len (i := 0) (T := tInt) hw rfl) (fun hlr5 => ?_)
  refine o_pure (p_move (v := .tuple #[.slice a3 (Ws.setR l at_ wd).length c4, .int .i64 (Ws.setErr l at_ wd)]) rfl) rfl rfl rfl ?_
  refine o_pure (p_extract (vs := [.slice a3 (Ws.setR l at_ wd).length c4, .int .i64 (Ws.setErr l at_ wd)]) (v := .slice a3 (Ws.setR l at_ wd).length c4) rfl rfl) rfl rfl rfl ?_
  refine o_pure (p_extract (vs := [.slice a3 (Ws.setR l at_ wd).length c4, .int .i64 (Ws.setErr l at_ wd)]) (v := .int .i64 (Ws.setErr l at_ wd)) rfl rfl) rfl rfl rfl ?_
  refine o_pure (p_assign (v := .slice a3 (Ws.setR l at_ wd).length c4) rfl) rfl rfl rfl ?_
  refine o_pure (p_assign (v := .int .i64 (Ws.setErr l at_ wd)) rfl) rfl rfl rfl ?_
  refine o_nil ?_
  refine q_then ?_
  refine c_seq ?_
  refine c_region ?_
  refine o_pure (p_move (v := .slice al l.length cl) rfl) rfl rfl rfl ?_
  refine o_pure (p_move (v := .int .i64 wd) rfl) rfl rfl rfl ?_
  refine o_callM rfl (wsizes_ok l al cl wd) hf41 (fun w hw => (rd_base (i := 1) rfl hl) w hw) rfl (fun _ _ _ _ ha hA => SlO.agree ha hA) ?_
  rintro ⟨a8, c9⟩ S6
  refine o_know (fun w hw => own_len (i := 0) (T := tInt) hw rfl) (fun hlr10 => ?_)
  refine o_pure (p_move (v := .tuple #[.slice a8 (Ws.sizes l wd).length c9, .int .i64 (Ws.check l wd)]) rfl) rfl rfl rfl ?_
  refine o_pure (p_extract (vs := [.slice a8 (Ws.sizes l wd).length c9, .int .i64 (Ws.check l wd)]) (v := .slice a8 (Ws.sizes l wd).length c9) rfl rfl) rfl rfl rfl ?_
  refine o_pure (p_extract (vs := [.slice a8 (Ws.sizes l wd).length c9, .int .i64 (Ws.check l wd)]) (v := .int .i64 (Ws.check l wd)) rfl rfl) rfl rfl rfl ?_
  refine o_pure (p_assign (v := .slice a8 (Ws.sizes l wd).length c9) rfl) rfl rfl rfl ?_
  refine o_pure (p_assign (v := .int .i64 (Ws.check l wd)) rfl) rfl rfl rfl ?_
  refine o_nil ?_
  refine q_then ?_
  refine c_seq ?_
  refine c_region ?_
  refine o_pure (p_move (v := .slice al l.length cl) rfl) rfl rfl rfl ?_
  refine o_pure (p_move (v := .int .i64 wd) rfl) rfl rfl rfl ?_
  refine o_call0 (v := .tuple #[.int .i64 (Ws.faults l wd), .int .i64 (Ws.check l wd)]) rfl (wfaults_ok l al cl wd) hf42 (fun w hw => (rd_base (i := 2) rfl hl) w hw) rfl ?_
  refine o_pure (p_move (v := .tuple #[.int .i64 (Ws.faults l wd), .int .i64 (Ws.check l wd)]) rfl) rfl rfl rfl ?_
  refine o_pure (p_extract (vs := [.int .i64 (Ws.faults l wd), .int .i64 (Ws.check l wd)]) (v := .int .i64 (Ws.faults l wd)) rfl rfl) rfl rfl rfl ?_
  refine o_pure (p_extract (vs := [.int .i64 (Ws.faults l wd), .int .i64 (Ws.check l wd)]) (v := .int .i64 (Ws.check l wd)) rfl rfl) rfl rfl rfl ?_
  refine o_pure (p_assign (v := .int .i64 (Ws.faults l wd)) rfl) rfl rfl rfl ?_
  refine o_pure (p_assign (v := .int .i64 (Ws.check l wd)) rfl) rfl rfl rfl ?_
  refine o_nil ?_
  refine q_then ?_
  refine c_seq ?_
  refine c_region ?_
  refine o_pure (p_move (v := .slice al l.length cl) rfl) rfl rfl rfl ?_
  refine o_pure (p_move (v := .int .i64 wd) rfl) rfl rfl rfl ?_
  refine o_pure (p_move (v := .int .i64 least) rfl) rfl rfl rfl ?_
  refine o_callM rfl (wphases_ok l al cl wd least) hf43 (fun w hw => (rd_base (i := 2) rfl hl) w hw) rfl (fun _ _ _ _ ha hA => SlO.agree ha hA) ?_
  rintro ⟨a13, c14⟩ S11
  refine o_know (fun w hw => own_len (i := 0) (T := tInt) hw rfl) (fun hlr15 => ?_)
  refine o_pure (p_move (v := .tuple #[.slice a13 (Ws.phases l wd least).length c14, .int .i64 (Ws.phErr l wd least)]) rfl) rfl rfl rfl ?_
  refine o_pure (p_extract (vs := [.slice a13 (Ws.phases l wd least).length c14, .int .i64 (Ws.phErr l wd least)]) (v := .slice a13 (Ws.phases l wd least).length c14) rfl rfl) rfl rfl rfl ?_
  refine o_pure (p_extract (vs := [.slice a13 (Ws.phases l wd least).length c14, .int .i64 (Ws.phErr l wd least)]) (v := .int .i64 (Ws.phErr l wd least)) rfl rfl) rfl rfl rfl ?_
  refine o_pure (p_assign (v := .slice a13 (Ws.phases l wd least).length c14) rfl) rfl rfl rfl ?_
  refine o_pure (p_assign (v := .int .i64 (Ws.phErr l wd least)) rfl) rfl rfl rfl ?_
  refine o_nil ?_
  refine q_then ?_
  refine c_seq ?_
  refine c_region ?_
  refine o_pure (p_move (v := .slice al l.length cl) rfl) rfl rfl rfl ?_
  refine o_pure (p_move (v := .int .i64 wd) rfl) rfl rfl rfl ?_
  refine o_call0 (v := .int .i64 (Ws.check l wd)) rfl (workErr_ok l al cl wd) hf44 (fun w hw => (rd_base (i := 3) rfl hl) w hw) rfl ?_
  refine o_pure (p_assign (v := .int .i64 (Ws.check l wd)) rfl) rfl rfl rfl ?_
  refine o_nil ?_
  refine q_then ?_
  refine c_seq ?_
  refine c_region ?_
  refine o_pure (p_move (v := .int .i64 (Ws.check l wd)) rfl) rfl rfl rfl ?_
  refine o_pure (p_move (v := .int .i64 (Ws.check l wd)) rfl) rfl rfl rfl ?_
  refine o_pure (p_assign (v := .int .i64 (Ws.check l wd)) rfl) rfl rfl rfl ?_
  refine o_pure (p_assign (v := .int .i64 (Ws.check l wd)) rfl) rfl rfl rfl ?_
  refine o_nil ?_
  refine q_then ?_
  refine c_seq ?_
  refine c_region ?_
  refine o_pure (p_assign (v := .slice none 0 0) rfl) rfl rfl rfl ?_
  refine o_pure (p_assign (v := .slice none 0 0) rfl) rfl rfl rfl ?_
  refine o_pure (p_assign (v := .slice none 0 0) rfl) rfl rfl rfl ?_
  refine o_nil ?_
  refine q_then ?_
  refine c_seq ?_
  refine c_region ?_
  refine o_pure (p_assign (v := .int .i64 0) rfl) rfl rfl rfl ?_
  refine o_nil ?_
  refine q_then ?_
  refine c_seq ?_
  refine c_seq ?_
  refine c_region ?_
  refine o_pure (p_move (v := .int .i64 (Ws.check l wd)) rfl) rfl rfl rfl ?_
  refine o_pure (p_eq (p := (Ws.check l wd)) (q := 0) rfl rfl) rfl rfl rfl ?_
  refine o_pure (p_move (v := .bool ((Ws.check l wd) == 0)) rfl) rfl rfl rfl ?_
  refine o_and (p := 67) 9 (decide (at_ < 0) || decide ((l.length : Int) ≤ at_)) ?_ ?_ ?_
  · intro hb16 hk
    simp only [beq_iff_eq] at hb16
    refine o_unguard 58 rfl rfl ?_
    refine o_pure (p_move (v := .int .i64 at_) rfl) rfl rfl rfl ?_
    refine o_unguard 58 rfl rfl ?_
    refine o_pure (p_lt (p := at_) (q := 0) rfl rfl) rfl rfl rfl ?_
    refine o_unguard 58 rfl rfl ?_
    refine o_pure (p_move (v := .bool (decide (at_ < 0))) rfl) rfl rfl rfl ?_
    refine o_or (p := 66) 5 (decide ((l.length : Int) ≤ at_)) ?_ ?_ ?_
    · intro hb17 hk
      simp only [decide_eq_false_iff_not, Int.not_lt] at hb17
      refine o_unguard 61 rfl rfl ?_
      refine o_pure (p_move (v := .int .i64 at_) rfl) rfl rfl rfl ?_
      refine o_unguard 61 rfl rfl ?_
      refine o_pure (p_move (v := .slice al l.length cl) rfl) rfl rfl rfl ?_
      refine o_unguard 61 rfl rfl ?_
      refine o_pure (p_len_slice (len := l.length) rfl rfl Try.underlying45) rfl rfl rfl ?_
      refine o_unguard 61 rfl rfl ?_
      refine o_pure (p_ge (p := at_) (q := (l.length : Int)) rfl rfl) rfl rfl rfl ?_
      refine o_unguard 58 rfl rfl ?_
      refine o_pure (p_pick_false (v := .bool (decide ((l.length : Int) ≤ at_))) rfl rfl) rfl rfl rfl ?_
      exact o_sub (Sub.cons rfl (Sub.skip rfl (Sub.skip rfl (Sub.skip rfl (Sub.skip rfl (Sub.skip rfl (Sub.skip rfl (Sub.refl _)))))))) hk
    · intro hb17 hk
      refine o_guard_no rfl 61 rfl rfl rfl rfl rfl ?_
      refine o_guard_no rfl 61 rfl rfl rfl rfl rfl ?_
      refine o_guard_no rfl 61 rfl rfl rfl rfl rfl ?_
      refine o_guard_no rfl 61 rfl rfl rfl rfl rfl ?_
      refine o_unguard 58 rfl rfl ?_
      refine o_pure (p_pick_true (u := .bool true) rfl rfl) rfl rfl rfl ?_
      exact o_sub (Sub.cons rfl (Sub.skip rfl (Sub.skip rfl (Sub.skip rfl (Sub.skip rfl (Sub.skip rfl (Sub.skip rfl (Sub.refl _)))))))) hk
    refine o_pure (p_pick_true (u := .bool (decide (at_ < 0) || decide ((l.length : Int) ≤ at_))) rfl rfl) rfl rfl rfl ?_
    exact o_sub (Sub.cons rfl (Sub.skip rfl (Sub.skip rfl (Sub.skip rfl (Sub.skip rfl (Sub.skip rfl (Sub.refl _))))))) hk
  · intro hb16 hk
    refine o_guard_no rfl 58 rfl rfl rfl rfl rfl ?_
    refine o_guard_no rfl 58 rfl rfl rfl rfl rfl ?_
    refine o_guard_no rfl 58 rfl rfl rfl rfl rfl ?_
    refine o_guard_no rfl 61 rfl rfl rfl rfl rfl ?_
    refine o_guard_no rfl 61 rfl rfl rfl rfl rfl ?_
    refine o_guard_no rfl 61 rfl rfl rfl rfl rfl ?_
    refine o_guard_no rfl 61 rfl rfl rfl rfl rfl ?_
    refine o_guard_no rfl 58 rfl rfl rfl rfl rfl ?_
    refine o_pure (p_pick_false (v := .bool false) rfl rfl) rfl rfl rfl ?_
    exact o_sub (Sub.cons rfl (Sub.skip rfl (Sub.skip rfl (Sub.skip rfl (Sub.skip rfl (Sub.skip rfl (Sub.skip rfl (Sub.skip rfl (Sub.skip rfl (Sub.skip rfl (Sub.skip rfl (Sub.refl _)))))))))))) hk
  refine o_nil ?_
  refine q_then ?_
  refine c_heap (H' := [loose tInt (False) (fun _ => False) none 0 ([] : List Int), own tInt S11 a13 c14 (Ws.phases l wd least), own tInt S6 a8 c9 (Ws.sizes l wd), own tInt S1 a3 c4 (Ws.setR l at_ wd), base w0]) (fun w hw => HeapIs.looseNil tInt hw) ?_
  refine c_join (G := Int × List Int × Option Addr × Nat × (Nat → Prop))
    (fun ⟨v, set, aset, cset, Sset⟩ => [(0, .slice al l.length cl), (2, .int .i64 wd), (3, .int .i64 least), (9, .slice a3 (Ws.setR l at_ wd).length c4), (10, .int .i64 (Ws.setErr l at_ wd)), (11, .slice a8 (Ws.sizes l wd).length c9), (12, .int .i64 (Ws.check l wd)), (13, .int .i64 (Ws.faults l wd)), (14, .int .i64 (Ws.check l wd)), (15, .slice a13 (Ws.phases l wd least).length c14), (16, .int .i64 (Ws.phErr l wd least)), (17, .int .i64 (Ws.check l wd)), (18, .int .i64 v), (19, .int .i64 (Ws.check l wd)), (20, .slice aset set.length cset), (21, .slice none 0 0), (22, .slice none 0 0), (23, .int .i64 0)])
    (fun ⟨v, set, aset, cset, Sset⟩ => [loose tInt (False) Sset aset cset set, own tInt S11 a13 c14 (Ws.phases l wd least), own tInt S6 a8 c9 (Ws.sizes l wd), own tInt S1 a3 c4 (Ws.setR l at_ wd), base w0])
    (fun ⟨v, set, aset, cset, Sset⟩ => (Ws.check l wd = 0 → v = Ws.setErr l at_ wd ∧ set = Ws.setR l at_ wd) ∧ (Ws.check l wd ≠ 0 → v = Ws.check l wd ∧ set = []))
    (fun K hK19 => ?_) ?_
  · refine c_cond (b := (((Ws.check l wd) == 0) && (decide (at_ < 0) || decide ((l.length : Int) ≤ at_)))) rfl (fun hc20 => ?_) (fun hc20 => ?_)
    · simp only [Bool.and_eq_true, beq_iff_eq, Bool.or_eq_true, decide_eq_true_eq] at hc20
      have hsb := Ws.set_bad hc20
      refine c_region ?_
      refine o_pure (p_assign (v := .int .i64 3) rfl) rfl rfl rfl ?_
      refine o_nil ?_
      refine q_join hK19 (3, ([] : List Int), none, 0, (fun _ => False)) ?_ (Sub.cons rfl (Sub.cons rfl (Sub.cons rfl (Sub.cons rfl (Sub.cons rfl (Sub.cons rfl (Sub.cons rfl (Sub.cons rfl (Sub.cons rfl (Sub.cons rfl (Sub.cons rfl (Sub.cons rfl (Sub.cons rfl (Sub.cons rfl (Sub.cons rfl (Sub.cons rfl (Sub.cons rfl (Sub.cons rfl (Sub.nil _))))))))))))))))))) (fun _ hw => HeapIs.pick hw [0, 1, 2, 3, 4] (by decide) rfl)
      clear hK19
      first | exact ⟨fun _ => ⟨hsb.1.symm, hsb.2.symm⟩, fun q => absurd (by assumption) q⟩ | exact ⟨fun q => ⟨q.trans (Ws.set_good q hro).1.symm, (Ws.set_good q hro).2.symm⟩, fun q => absurd hck q⟩ | exact ⟨fun q => ⟨(Ws.set_good q hro).1.symm, (Ws.set_good q hro).2.symm⟩, fun q => absurd hck q⟩ | exact ⟨fun q => absurd q hbad, fun _ => ⟨rfl, rfl⟩⟩ | simp_all
    · simp only [Bool.and_eq_false_iff, beq_eq_false_iff_ne, ne_eq, Bool.or_eq_false_iff, decide_eq_false_iff_not, Int.not_lt, Int.not_le] at hc20
      have hro := hc20
      refine c_seq ?_
      refine c_region ?_
      refine o_pure (p_move (v := .int .i64 (Ws.check l wd)) rfl) rfl rfl rfl ?_
      refine o_pure (p_eq (p := (Ws.check l wd)) (q := 0) rfl rfl) rfl rfl rfl ?_
      refine o_nil ?_
      refine q_then ?_
      refine c_cond (b := ((Ws.check l wd) == 0)) rfl (fun hc21 => ?_) (fun hc21 => ?_)
      · simp only [beq_iff_eq] at hc21
        have hck := hc21
        have hok := Ws.chk_ok hc21
        have hwb := Ws.okWin_bd hok.2.1
        have h200 := hok.2.2
        have hk0 : ∀ x ∈ l, 0 ≤ x := fun x hx => (Lru.key_ok ((Lru.trace_ok.1 hok.1).2 x hx)).1
        refine c_region ?_
        refine o_pure (p_move (v := .slice al l.length cl) rfl) rfl rfl rfl ?_
        refine o_pure (p_move (v := .int .i64 at_) rfl) rfl rfl rfl ?_
        refine o_pure (p_move (v := .int .i64 wd) rfl) rfl rfl rfl ?_
        refine o_callM rfl (workSet_ok l al cl at_ wd (by first | assumption | exact ⟨by omega, hwb, h200, hk0⟩)) hf45 (fun w hw => (rd_base (i := 4) rfl hl) w hw) rfl (fun _ _ _ _ ha hA => SlO.agree ha hA) ?_
        rintro ⟨a24, c25⟩ S22
        refine o_know (fun w hw => own_len (i := 0) (T := tInt) hw rfl) (fun hlr26 => ?_)
        refine o_pure (p_assign (v := .slice a24 (Ws.set l wd at_.toNat).length c25) rfl) rfl rfl rfl ?_
        refine o_nil ?_
        refine q_heap (H' := [loose tInt (False) S22 a24 c25 (Ws.set l wd at_.toNat), loose tInt (False) (fun _ => False) none 0 ([] : List Int), own tInt S11 a13 c14 (Ws.phases l wd least), own tInt S6 a8 c9 (Ws.sizes l wd), own tInt S1 a3 c4 (Ws.setR l at_ wd), base w0]) (fun w hw => HeapIs.toLoose (i := 0) (T := tInt) rfl hw) ?_
        refine q_join hK19 ((Ws.check l wd), (Ws.set l wd at_.toNat), a24, c25, S22) ?_ (Sub.cons rfl (Sub.cons rfl (Sub.cons rfl (Sub.cons rfl (Sub.cons rfl (Sub.cons rfl (Sub.cons rfl (Sub.cons rfl (Sub.cons rfl (Sub.cons rfl (Sub.cons rfl (Sub.cons rfl (Sub.cons rfl (Sub.cons rfl (Sub.cons rfl (Sub.cons rfl (Sub.cons rfl (Sub.cons rfl (Sub.nil _))))))))))))))))))) (fun _ hw => HeapIs.pick hw [0, 2, 3, 4, 5] (by decide) rfl)
        clear hK19
        first | exact ⟨fun _ => ⟨hsb.1.symm, hsb.2.symm⟩, fun q => absurd (by assumption) q⟩ | exact ⟨fun q => ⟨q.trans (Ws.set_good q hro).1.symm, (Ws.set_good q hro).2.symm⟩, fun q => absurd hck q⟩ | exact ⟨fun q => ⟨(Ws.set_good q hro).1.symm, (Ws.set_good q hro).2.symm⟩, fun q => absurd hck q⟩ | exact ⟨fun q => absurd q hbad, fun _ => ⟨rfl, rfl⟩⟩ | simp_all
      · simp only [beq_eq_false_iff_ne, ne_eq] at hc21
        have hbad := hc21
        obtain ⟨b1, b2, b3, b4, b5, b6⟩ := Ws.spec_bad hc21 at_ least
        refine c_skip ?_
        refine q_join hK19 ((Ws.check l wd), ([] : List Int), none, 0, (fun _ => False)) ?_ (Sub.cons rfl (Sub.cons rfl (Sub.cons rfl (Sub.cons rfl (Sub.cons rfl (Sub.cons rfl (Sub.cons rfl (Sub.cons rfl (Sub.cons rfl (Sub.cons rfl (Sub.cons rfl (Sub.cons rfl (Sub.cons rfl (Sub.cons rfl (Sub.cons rfl (Sub.cons rfl (Sub.cons rfl (Sub.cons rfl (Sub.nil _))))))))))))))))))) (fun _ hw => HeapIs.pick hw [0, 1, 2, 3, 4] (by decide) rfl)
        clear hK19
        first | exact ⟨fun _ => ⟨hsb.1.symm, hsb.2.symm⟩, fun q => absurd (by assumption) q⟩ | exact ⟨fun q => ⟨q.trans (Ws.set_good q hro).1.symm, (Ws.set_good q hro).2.symm⟩, fun q => absurd hck q⟩ | exact ⟨fun q => ⟨(Ws.set_good q hro).1.symm, (Ws.set_good q hro).2.symm⟩, fun q => absurd hck q⟩ | exact ⟨fun q => absurd q hbad, fun _ => ⟨rfl, rfl⟩⟩ | simp_all
  rintro ⟨v, set, aset, cset, Sset⟩ hj1
  show SQ _ 144 w0 _ _ [(0, .slice al l.length cl), (2, .int .i64 wd), (3, .int .i64 least), (9, .slice a3 (Ws.setR l at_ wd).length c4), (10, .int .i64 (Ws.setErr l at_ wd)), (11, .slice a8 (Ws.sizes l wd).length c9), (12, .int .i64 (Ws.check l wd)), (13, .int .i64 (Ws.faults l wd)), (14, .int .i64 (Ws.check l wd)), (15, .slice a13 (Ws.phases l wd least).length c14), (16, .int .i64 (Ws.phErr l wd least)), (17, .int .i64 (Ws.check l wd)), (18, .int .i64 v), (19, .int .i64 (Ws.check l wd)), (20, .slice aset set.length cset), (21, .slice none 0 0), (22, .slice none 0 0), (23, .int .i64 0)] [loose tInt (False) Sset aset cset set, own tInt S11 a13 c14 (Ws.phases l wd least), own tInt S6 a8 c9 (Ws.sizes l wd), own tInt S1 a3 c4 (Ws.setR l at_ wd), base w0]
  refine q_then ?_
  refine c_seq ?_
  refine c_seq ?_
  refine c_region ?_
  refine o_pure (p_move (v := .int .i64 (Ws.check l wd)) rfl) rfl rfl rfl ?_
  refine o_pure (p_eq (p := (Ws.check l wd)) (q := 0) rfl rfl) rfl rfl rfl ?_
  refine o_nil ?_
  refine q_then ?_
  refine c_cond (b := ((Ws.check l wd) == 0)) rfl (fun hc27 => ?_) (fun hc27 => ?_)
  · simp only [beq_iff_eq] at hc27
    have hck := hc27
    have hok := Ws.chk_ok hc27
    have hwb := Ws.okWin_bd hok.2.1
    have h200 := hok.2.2
    have hk0 : ∀ x ∈ l, 0 ≤ x := fun x hx => (Lru.key_ok ((Lru.trace_ok.1 hok.1).2 x hx)).1
    refine c_seq ?_
    refine c_seq ?_
    refine c_region ?_
    refine o_pure (p_assign (v := .int .i64 0) rfl) rfl rfl rfl ?_
    refine o_nil ?_
    refine q_then ?_
    refine c_block ?_
    refine c_ownNil tInt ?_
    refine c_loop (St := List Int × Option Addr × Nat × (Nat → Prop) × Nat)
      (fun ⟨sizes, asizes, csizes, Ssizes, i⟩ => [(0, .slice al l.length cl), (2, .int .i64 wd), (3, .int .i64 least), (9, .slice a3 (Ws.setR l at_ wd).length c4), (10, .int .i64 (Ws.setErr l at_ wd)), (11, .slice a8 (Ws.sizes l wd).length c9), (12, .int .i64 (Ws.check l wd)), (13, .int .i64 (Ws.faults l wd)), (14, .int .i64 (Ws.check l wd)), (15, .slice a13 (Ws.phases l wd least).length c14), (16, .int .i64 (Ws.phErr l wd least)), (17, .int .i64 (Ws.check l wd)), (18, .int .i64 v), (19, .int .i64 (Ws.check l wd)), (20, .slice aset set.length cset), (21, .slice asizes sizes.length csizes), (22, .slice none 0 0), (24, .int .i64 (i : Int))])
      (fun ⟨sizes, asizes, csizes, Ssizes, i⟩ => [own tInt Ssizes asizes csizes sizes, loose tInt (False) Sset aset cset set, own tInt S11 a13 c14 (Ws.phases l wd least), own tInt S6 a8 c9 (Ws.sizes l wd), own tInt S1 a3 c4 (Ws.setR l at_ wd), base w0])
      (fun ⟨sizes, asizes, csizes, Ssizes, i⟩ => i ≤ l.length ∧ sizes = (List.range i).map (Ws.size l wd))
      (fun ⟨sizes, asizes, csizes, Ssizes, i⟩ => l.length - i)
      ([], none, 0, (fun _ => False), 0) ?_ (Sub.cons rfl (Sub.cons rfl (Sub.cons rfl (Sub.cons rfl (Sub.cons rfl (Sub.cons rfl (Sub.cons rfl (Sub.cons rfl (Sub.cons rfl (Sub.cons rfl (Sub.cons rfl (Sub.cons rfl (Sub.cons rfl (Sub.cons rfl (Sub.cons rfl (Sub.cons rfl (Sub.cons rfl (Sub.cons rfl (Sub.nil _))))))))))))))))))) (fun _ hw => hw) ?_
    · exact ⟨Nat.zero_le _, rfl⟩
    rintro ⟨sizes, asizes, csizes, Ssizes, i⟩ hI K hK29
    have hsl : sizes.length = i := by rw [hI.2]; simp
    have hle := hI.1
    show SC _ _ Try.prog 144 w0 _ _ [(0, .slice al l.length cl), (2, .int .i64 wd), (3, .int .i64 least), (9, .slice a3 (Ws.setR l at_ wd).length c4), (10, .int .i64 (Ws.setErr l at_ wd)), (11, .slice a8 (Ws.sizes l wd).length c9), (12, .int .i64 (Ws.check l wd)), (13, .int .i64 (Ws.faults l wd)), (14, .int .i64 (Ws.check l wd)), (15, .slice a13 (Ws.phases l wd least).length c14), (16, .int .i64 (Ws.phErr l wd least)), (17, .int .i64 (Ws.check l wd)), (18, .int .i64 v), (19, .int .i64 (Ws.check l wd)), (20, .slice aset set.length cset), (21, .slice asizes sizes.length csizes), (22, .slice none 0 0), (24, .int .i64 (i : Int))] [own tInt Ssizes asizes csizes sizes, loose tInt (False) Sset aset cset set, own tInt S11 a13 c14 (Ws.phases l wd least), own tInt S6 a8 c9 (Ws.sizes l wd), own tInt S1 a3 c4 (Ws.setR l at_ wd), base w0]
    refine c_seq ?_
    refine c_seq ?_
    refine c_region ?_
    refine o_pure (p_move (v := .int .i64 (i : Int)) rfl) rfl rfl rfl ?_
    refine o_pure (p_move (v := .slice al l.length cl) rfl) rfl rfl rfl ?_
    refine o_pure (p_len_slice (len := l.length) rfl rfl Try.underlying45) rfl rfl rfl ?_
    refine o_pure (p_lt (p := (i : Int)) (q := (l.length : Int)) rfl rfl) rfl rfl rfl ?_
    refine o_nil ?_
    refine q_then ?_
    refine c_cond (b := decide ((i : Int) < (l.length : Int))) rfl (fun hc30 => ?_) (fun hc30 => ?_)
    · simp only [decide_eq_true_eq] at hc30
      refine c_skip ?_
      refine q_then ?_
      refine c_seq ?_
      refine c_block ?_
      refine c_region ?_
      refine o_pure (p_move (v := .slice asizes sizes.length csizes) rfl) rfl rfl rfl ?_
      refine o_pure (p_move (v := .slice al l.length cl) rfl) rfl rfl rfl ?_
      refine o_pure (p_move (v := .int .i64 (i : Int)) rfl) rfl rfl rfl ?_
      refine o_pure (p_move (v := .int .i64 wd) rfl) rfl rfl rfl ?_
      refine o_callM rfl (workSet_ok l al cl (i : Int) wd (by first | assumption | exact ⟨by omega, hwb, h200, hk0⟩)) hf45 (fun w hw => (rd_base (i := 5) rfl hl) w hw) rfl (fun _ _ _ _ ha hA => SlO.agree ha hA) ?_
      rintro ⟨a33, c34⟩ S31
      refine o_know (fun w hw => own_len (i := 0) (T := tInt) hw rfl) (fun hlr35 => ?_)
      refine o_pure (p_len_slice (len := (Ws.set l wd (i : Int).toNat).length) rfl rfl Try.underlying45) rfl rfl rfl ?_
      refine o_buildSlice (m := 1) (T := tInt) (L := [((Ws.set l wd (i : Int).toNat).length : Int)]) (vs := [.int .i64 ((Ws.set l wd (i : Int).toNat).length : Int)]) rfl rfl rfl rfl Try.underlying45 sz3 (by decide) ze3 rfl (by decide) rfl (fun S36 a37 => ?_)
      refine o_append (i := 2) (L := sizes) (M := [((Ws.set l wd (i : Int).toNat).length : Int)]) (T := tInt) rfl rfl rfl (rd_own (i := 0) rfl) Try.underlying45 Try.underlying45 (by intro k h; cases h) el3 (by intro z; simp [tInt, one1]) (by decide) (by first | omega | (simp only [List.length_cons, List.length_nil]; omega) | (simp only [List.length_append, List.length_cons, List.length_nil, List.length_take, List.length_drop]; omega)) rfl (fun a39 c40 S41 => ?_)
      refine o_pure (p_assign (v := .slice a39 (sizes ++ [((Ws.set l wd (i : Int).toNat).length : Int)]).length c40) rfl) rfl rfl rfl ?_
      refine o_nil ?_
      refine q_block_normal (q_then ?_)
      refine c_region ?_
      refine o_pure (p_move (v := .int .i64 (i : Int)) rfl) rfl rfl rfl ?_
      refine o_pure (p_addb (p := (i : Int)) (q := 1) rfl rfl (by omega)) rfl rfl rfl ?_
      refine o_pure (p_assign (v := .int .i64 ((i : Int) + 1)) rfl) rfl rfl rfl ?_
      refine o_nil ?_
      refine q_round hK29 ((sizes ++ [((Ws.set l wd (i : Int).toNat).length : Int)]), a39, c40, S41, i + 1) ?_ ?_ ?_ ?_
      · clear hK29
        exact ⟨by omega, Ws.sz_next2 hI.2⟩
      · (try dsimp only); omega
      · exact Sub.cons rfl (Sub.cons rfl (Sub.cons rfl (Sub.cons rfl (Sub.cons rfl (Sub.cons rfl (Sub.cons rfl (Sub.cons rfl (Sub.cons rfl (Sub.cons rfl (Sub.cons rfl (Sub.cons rfl (Sub.cons rfl (Sub.cons rfl (Sub.cons rfl (Sub.cons rfl (Sub.cons rfl (Sub.cons rfl (Sub.nil _))))))))))))))))))
      · exact fun _ hw => HeapIs.pick hw [2, 3, 4, 5, 6, 7] (by decide) rfl
    · simp only [decide_eq_false_iff_not, Int.not_lt] at hc30
      refine c_exit ?_
      refine q_then_exit (q_then_exit (q_block_exit (q_then ?_)))
      refine c_seq ?_
      refine c_region ?_
      refine o_pure (p_move (v := .slice al l.length cl) rfl) rfl rfl rfl ?_
      refine o_pure (p_move (v := .int .i64 wd) rfl) rfl rfl rfl ?_
      refine o_call0 (v := .int .i64 (Ws.fc l wd l.length)) rfl (workFaults_ok l al cl wd (by first | assumption | exact ⟨hwb, h200, hk0⟩)) hf46 (fun w hw => (rd_base (i := 5) rfl hl) w hw) rfl ?_
      refine o_pure (p_assign (v := .int .i64 (Ws.fc l wd l.length)) rfl) rfl rfl rfl ?_
      refine o_nil ?_
      refine q_then ?_
      refine c_seq ?_
      refine c_region ?_
      refine o_pure (p_move (v := .int .i64 least) rfl) rfl rfl rfl ?_
      refine o_pure (p_lt (p := least) (q := 1) rfl rfl) rfl rfl rfl ?_
      refine o_pure (p_move (v := .bool (decide (least < 1))) rfl) rfl rfl rfl ?_
      refine o_or (p := 98) 3 (decide (200 < least)) ?_ ?_ ?_
      · intro hb42 hk
        simp only [decide_eq_false_iff_not, Int.not_lt] at hb42
        refine o_unguard 95 rfl rfl ?_
        refine o_pure (p_move (v := .int .i64 least) rfl) rfl rfl rfl ?_
        refine o_unguard 95 rfl rfl ?_
        refine o_pure (p_gt (p := least) (q := 200) rfl rfl) rfl rfl rfl ?_
        refine o_pure (p_pick_false (v := .bool (decide (200 < least))) rfl rfl) rfl rfl rfl ?_
        exact o_sub (Sub.cons rfl (Sub.skip rfl (Sub.skip rfl (Sub.skip rfl (Sub.skip rfl (Sub.refl _)))))) hk
      · intro hb42 hk
        refine o_guard_no rfl 95 rfl rfl rfl rfl rfl ?_
        refine o_guard_no rfl 95 rfl rfl rfl rfl rfl ?_
        refine o_pure (p_pick_true (u := .bool true) rfl rfl) rfl rfl rfl ?_
        exact o_sub (Sub.cons rfl (Sub.skip rfl (Sub.skip rfl (Sub.skip rfl (Sub.skip rfl (Sub.refl _)))))) hk
      refine o_nil ?_
      refine q_then ?_
      refine c_cond (b := (decide (least < 1) || decide (200 < least))) rfl (fun hc43 => ?_) (fun hc43 => ?_)
      · simp only [Bool.or_eq_true, decide_eq_true_eq] at hc43
        have hph := Ws.ph2 (w := wd) ⟨hck, Ws.okWin_no hc43⟩
        refine c_region ?_
        refine o_pure (p_assign (v := .int .i64 3) rfl) rfl rfl rfl ?_
        refine o_nil ?_
        refine q_then ?_
        refine c_seq ?_
        refine c_region ?_
        refine o_call0 (v := .bool true) rfl (workBegun_ok ) hf48 (fun _ _ => trivial) rfl ?_
        refine o_pure (p_move (v := .bool true) rfl) rfl rfl rfl ?_
        refine o_unguard 104 rfl rfl ?_
        refine o_pure (p_move (v := .slice a3 (Ws.setR l at_ wd).length c4) rfl) rfl rfl rfl ?_
        refine o_unguard 104 rfl rfl ?_
        refine o_pure (p_move (v := .slice aset set.length cset) rfl) rfl rfl rfl ?_
        refine o_unguard 104 rfl rfl ?_
        refine o_call0 (v := .bool (Ref.sameInts (Ws.setR l at_ wd) set)) rfl (sameInts_ok (Ws.setR l at_ wd) a3 c4 set aset cset) hf31 (fun w hw => ⟨(rd_own (i := 4) rfl) w hw, (rd_loose (i := 1) rfl (fun hφ => hφ.elim)) w hw⟩) rfl ?_
        refine o_pure (p_pick_true (u := .bool (Ref.sameInts (Ws.setR l at_ wd) set)) rfl rfl) rfl rfl rfl ?_
        refine o_pure (p_move (v := .bool (Ref.sameInts (Ws.setR l at_ wd) set)) rfl) rfl rfl rfl ?_
        refine o_and (p := 113) 4 ((Ws.setErr l at_ wd) == v) ?_ ?_ ?_
        · intro hb44 hk
          skip
          refine o_unguard 109 rfl rfl ?_
          refine o_pure (p_move (v := .int .i64 (Ws.setErr l at_ wd)) rfl) rfl rfl rfl ?_
          refine o_unguard 109 rfl rfl ?_
          refine o_pure (p_move (v := .int .i64 v) rfl) rfl rfl rfl ?_
          refine o_unguard 109 rfl rfl ?_
          refine o_pure (p_eq (p := (Ws.setErr l at_ wd)) (q := v) rfl rfl) rfl rfl rfl ?_
          refine o_pure (p_pick_true (u := .bool ((Ws.setErr l at_ wd) == v)) rfl rfl) rfl rfl rfl ?_
          exact o_sub (Sub.cons rfl (Sub.skip rfl (Sub.skip rfl (Sub.skip rfl (Sub.skip rfl (Sub.skip rfl (Sub.refl _))))))) hk
        · intro hb44 hk
          refine o_guard_no rfl 109 rfl rfl rfl rfl rfl ?_
          refine o_guard_no rfl 109 rfl rfl rfl rfl rfl ?_
          refine o_guard_no rfl 109 rfl rfl rfl rfl rfl ?_
          refine o_pure (p_pick_false (v := .bool false) rfl rfl) rfl rfl rfl ?_
          exact o_sub (Sub.cons rfl (Sub.skip rfl (Sub.skip rfl (Sub.skip rfl (Sub.skip rfl (Sub.skip rfl (Sub.refl _))))))) hk
        refine o_pure (p_move (v := .bool ((Ref.sameInts (Ws.setR l at_ wd) set) && ((Ws.setErr l at_ wd) == v))) rfl) rfl rfl rfl ?_
        refine o_and (p := 118) 4 (Ref.sameInts (Ws.sizes l wd) sizes) ?_ ?_ ?_
        · intro hb45 hk
          simp only [Bool.and_eq_true, beq_iff_eq] at hb45
          refine o_unguard 114 rfl rfl ?_
          refine o_pure (p_move (v := .slice a8 (Ws.sizes l wd).length c9) rfl) rfl rfl rfl ?_
          refine o_unguard 114 rfl rfl ?_
          refine o_pure (p_move (v := .slice asizes sizes.length csizes) rfl) rfl rfl rfl ?_
          refine o_unguard 114 rfl rfl ?_
          refine o_call0 (v := .bool (Ref.sameInts (Ws.sizes l wd) sizes)) rfl (sameInts_ok (Ws.sizes l wd) a8 c9 sizes asizes csizes) hf31 (fun w hw => ⟨(rd_own (i := 3) rfl) w hw, (rd_own (i := 0) rfl) w hw⟩) rfl ?_
          refine o_pure (p_pick_true (u := .bool (Ref.sameInts (Ws.sizes l wd) sizes)) rfl rfl) rfl rfl rfl ?_
          exact o_sub (Sub.cons rfl (Sub.skip rfl (Sub.skip rfl (Sub.skip rfl (Sub.skip rfl (Sub.skip rfl (Sub.refl _))))))) hk
        · intro hb45 hk
          refine o_guard_no rfl 114 rfl rfl rfl rfl rfl ?_
          refine o_guard_no rfl 114 rfl rfl rfl rfl rfl ?_
          refine o_guard_no rfl 114 rfl rfl rfl rfl rfl ?_
          refine o_pure (p_pick_false (v := .bool false) rfl rfl) rfl rfl rfl ?_
          exact o_sub (Sub.cons rfl (Sub.skip rfl (Sub.skip rfl (Sub.skip rfl (Sub.skip rfl (Sub.skip rfl (Sub.refl _))))))) hk
        refine o_pure (p_move (v := .bool (((Ref.sameInts (Ws.setR l at_ wd) set) && ((Ws.setErr l at_ wd) == v)) && (Ref.sameInts (Ws.sizes l wd) sizes))) rfl) rfl rfl rfl ?_
        refine o_and (p := 123) 4 ((Ws.check l wd) == (Ws.check l wd)) ?_ ?_ ?_
        · intro hb46 hk
          simp only [Bool.and_eq_true, beq_iff_eq] at hb46
          refine o_unguard 119 rfl rfl ?_
          refine o_pure (p_move (v := .int .i64 (Ws.check l wd)) rfl) rfl rfl rfl ?_
          refine o_unguard 119 rfl rfl ?_
          refine o_pure (p_move (v := .int .i64 (Ws.check l wd)) rfl) rfl rfl rfl ?_
          refine o_unguard 119 rfl rfl ?_
          refine o_pure (p_eq (p := (Ws.check l wd)) (q := (Ws.check l wd)) rfl rfl) rfl rfl rfl ?_
          refine o_pure (p_pick_true (u := .bool ((Ws.check l wd) == (Ws.check l wd))) rfl rfl) rfl rfl rfl ?_
          exact o_sub (Sub.cons rfl (Sub.skip rfl (Sub.skip rfl (Sub.skip rfl (Sub.skip rfl (Sub.skip rfl (Sub.refl _))))))) hk
        · intro hb46 hk
          refine o_guard_no rfl 119 rfl rfl rfl rfl rfl ?_
          refine o_guard_no rfl 119 rfl rfl rfl rfl rfl ?_
          refine o_guard_no rfl 119 rfl rfl rfl rfl rfl ?_
          refine o_pure (p_pick_false (v := .bool false) rfl rfl) rfl rfl rfl ?_
          exact o_sub (Sub.cons rfl (Sub.skip rfl (Sub.skip rfl (Sub.skip rfl (Sub.skip rfl (Sub.skip rfl (Sub.refl _))))))) hk
        refine o_pure (p_move (v := .bool ((((Ref.sameInts (Ws.setR l at_ wd) set) && ((Ws.setErr l at_ wd) == v)) && (Ref.sameInts (Ws.sizes l wd) sizes)) && ((Ws.check l wd) == (Ws.check l wd)))) rfl) rfl rfl rfl ?_
        refine o_and (p := 128) 4 ((Ws.faults l wd) == (Ws.fc l wd l.length)) ?_ ?_ ?_
        · intro hb47 hk
          simp only [Bool.and_eq_true, beq_iff_eq] at hb47
          refine o_unguard 124 rfl rfl ?_
          refine o_pure (p_move (v := .int .i64 (Ws.faults l wd)) rfl) rfl rfl rfl ?_
          refine o_unguard 124 rfl rfl ?_
          refine o_pure (p_move (v := .int .i64 (Ws.fc l wd l.length)) rfl) rfl rfl rfl ?_
          refine o_unguard 124 rfl rfl ?_
          refine o_pure (p_eq (p := (Ws.faults l wd)) (q := (Ws.fc l wd l.length)) rfl rfl) rfl rfl rfl ?_
          refine o_pure (p_pick_true (u := .bool ((Ws.faults l wd) == (Ws.fc l wd l.length))) rfl rfl) rfl rfl rfl ?_
          exact o_sub (Sub.cons rfl (Sub.skip rfl (Sub.skip rfl (Sub.skip rfl (Sub.skip rfl (Sub.skip rfl (Sub.refl _))))))) hk
        · intro hb47 hk
          refine o_guard_no rfl 124 rfl rfl rfl rfl rfl ?_
          refine o_guard_no rfl 124 rfl rfl rfl rfl rfl ?_
          refine o_guard_no rfl 124 rfl rfl rfl rfl rfl ?_
          refine o_pure (p_pick_false (v := .bool false) rfl rfl) rfl rfl rfl ?_
          exact o_sub (Sub.cons rfl (Sub.skip rfl (Sub.skip rfl (Sub.skip rfl (Sub.skip rfl (Sub.skip rfl (Sub.refl _))))))) hk
        refine o_pure (p_move (v := .bool (((((Ref.sameInts (Ws.setR l at_ wd) set) && ((Ws.setErr l at_ wd) == v)) && (Ref.sameInts (Ws.sizes l wd) sizes)) && ((Ws.check l wd) == (Ws.check l wd))) && ((Ws.faults l wd) == (Ws.fc l wd l.length)))) rfl) rfl rfl rfl ?_
        refine o_and (p := 133) 4 ((Ws.check l wd) == (Ws.check l wd)) ?_ ?_ ?_
        · intro hb48 hk
          simp only [Bool.and_eq_true, beq_iff_eq] at hb48
          refine o_unguard 129 rfl rfl ?_
          refine o_pure (p_move (v := .int .i64 (Ws.check l wd)) rfl) rfl rfl rfl ?_
          refine o_unguard 129 rfl rfl ?_
          refine o_pure (p_move (v := .int .i64 (Ws.check l wd)) rfl) rfl rfl rfl ?_
          refine o_unguard 129 rfl rfl ?_
          refine o_pure (p_eq (p := (Ws.check l wd)) (q := (Ws.check l wd)) rfl rfl) rfl rfl rfl ?_
          refine o_pure (p_pick_true (u := .bool ((Ws.check l wd) == (Ws.check l wd))) rfl rfl) rfl rfl rfl ?_
          exact o_sub (Sub.cons rfl (Sub.skip rfl (Sub.skip rfl (Sub.skip rfl (Sub.skip rfl (Sub.skip rfl (Sub.refl _))))))) hk
        · intro hb48 hk
          refine o_guard_no rfl 129 rfl rfl rfl rfl rfl ?_
          refine o_guard_no rfl 129 rfl rfl rfl rfl rfl ?_
          refine o_guard_no rfl 129 rfl rfl rfl rfl rfl ?_
          refine o_pure (p_pick_false (v := .bool false) rfl rfl) rfl rfl rfl ?_
          exact o_sub (Sub.cons rfl (Sub.skip rfl (Sub.skip rfl (Sub.skip rfl (Sub.skip rfl (Sub.skip rfl (Sub.refl _))))))) hk
        refine o_pure (p_move (v := .bool ((((((Ref.sameInts (Ws.setR l at_ wd) set) && ((Ws.setErr l at_ wd) == v)) && (Ref.sameInts (Ws.sizes l wd) sizes)) && ((Ws.check l wd) == (Ws.check l wd))) && ((Ws.faults l wd) == (Ws.fc l wd l.length))) && ((Ws.check l wd) == (Ws.check l wd)))) rfl) rfl rfl rfl ?_
        refine o_and (p := 138) 4 (Ref.sameInts (Ws.phases l wd least) []) ?_ ?_ ?_
        · intro hb49 hk
          simp only [Bool.and_eq_true, beq_iff_eq] at hb49
          refine o_unguard 134 rfl rfl ?_
          refine o_pure (p_move (v := .slice a13 (Ws.phases l wd least).length c14) rfl) rfl rfl rfl ?_
          refine o_unguard 134 rfl rfl ?_
          refine o_pure (p_move (v := .slice none 0 0) rfl) rfl rfl rfl ?_
          refine o_unguard 134 rfl rfl ?_
          refine o_call0 (v := .bool (Ref.sameInts (Ws.phases l wd least) [])) rfl (sameInts_ok (Ws.phases l wd least) a13 c14 [] none 0) hf31 (fun w hw => ⟨(rd_own (i := 2) rfl) w hw, rd_nil w hw⟩) rfl ?_
          refine o_pure (p_pick_true (u := .bool (Ref.sameInts (Ws.phases l wd least) [])) rfl rfl) rfl rfl rfl ?_
          exact o_sub (Sub.cons rfl (Sub.skip rfl (Sub.skip rfl (Sub.skip rfl (Sub.skip rfl (Sub.skip rfl (Sub.refl _))))))) hk
        · intro hb49 hk
          refine o_guard_no rfl 134 rfl rfl rfl rfl rfl ?_
          refine o_guard_no rfl 134 rfl rfl rfl rfl rfl ?_
          refine o_guard_no rfl 134 rfl rfl rfl rfl rfl ?_
          refine o_pure (p_pick_false (v := .bool false) rfl rfl) rfl rfl rfl ?_
          exact o_sub (Sub.cons rfl (Sub.skip rfl (Sub.skip rfl (Sub.skip rfl (Sub.skip rfl (Sub.skip rfl (Sub.refl _))))))) hk
        refine o_pure (p_move (v := .bool (((((((Ref.sameInts (Ws.setR l at_ wd) set) && ((Ws.setErr l at_ wd) == v)) && (Ref.sameInts (Ws.sizes l wd) sizes)) && ((Ws.check l wd) == (Ws.check l wd))) && ((Ws.faults l wd) == (Ws.fc l wd l.length))) && ((Ws.check l wd) == (Ws.check l wd))) && (Ref.sameInts (Ws.phases l wd least) []))) rfl) rfl rfl rfl ?_
        refine o_and (p := 143) 4 ((Ws.phErr l wd least) == 3) ?_ ?_ ?_
        · intro hb50 hk
          simp only [Bool.and_eq_true, beq_iff_eq] at hb50
          refine o_unguard 139 rfl rfl ?_
          refine o_pure (p_move (v := .int .i64 (Ws.phErr l wd least)) rfl) rfl rfl rfl ?_
          refine o_unguard 139 rfl rfl ?_
          refine o_pure (p_move (v := .int .i64 3) rfl) rfl rfl rfl ?_
          refine o_unguard 139 rfl rfl ?_
          refine o_pure (p_eq (p := (Ws.phErr l wd least)) (q := 3) rfl rfl) rfl rfl rfl ?_
          refine o_pure (p_pick_true (u := .bool ((Ws.phErr l wd least) == 3)) rfl rfl) rfl rfl rfl ?_
          exact o_sub (Sub.cons rfl (Sub.skip rfl (Sub.skip rfl (Sub.skip rfl (Sub.skip rfl (Sub.skip rfl (Sub.refl _))))))) hk
        · intro hb50 hk
          refine o_guard_no rfl 139 rfl rfl rfl rfl rfl ?_
          refine o_guard_no rfl 139 rfl rfl rfl rfl rfl ?_
          refine o_guard_no rfl 139 rfl rfl rfl rfl rfl ?_
          refine o_pure (p_pick_false (v := .bool false) rfl rfl) rfl rfl rfl ?_
          exact o_sub (Sub.cons rfl (Sub.skip rfl (Sub.skip rfl (Sub.skip rfl (Sub.skip rfl (Sub.skip rfl (Sub.refl _))))))) hk
        refine o_pure (p_assign (v := .bool ((((((((Ref.sameInts (Ws.setR l at_ wd) set) && ((Ws.setErr l at_ wd) == v)) && (Ref.sameInts (Ws.sizes l wd) sizes)) && ((Ws.check l wd) == (Ws.check l wd))) && ((Ws.faults l wd) == (Ws.fc l wd l.length))) && ((Ws.check l wd) == (Ws.check l wd))) && (Ref.sameInts (Ws.phases l wd least) [])) && ((Ws.phErr l wd least) == 3))) rfl) rfl rfl rfl ?_
        refine o_nil ?_
        refine q_then ?_
        refine c_ret ?_
        have hr0 : (((((((((Ref.sameInts (Ws.setR l at_ wd) set) && ((Ws.setErr l at_ wd) == v)) && (Ref.sameInts (Ws.sizes l wd) sizes)) && ((Ws.check l wd) == (Ws.check l wd))) && ((Ws.faults l wd) == (Ws.fc l wd l.length))) && ((Ws.check l wd) == (Ws.check l wd))) && (Ref.sameInts (Ws.phases l wd least) [])) && ((Ws.phErr l wd least) == 3)) : Bool) = true := by
          first | (obtain ⟨hv1, hv2⟩ := hj1.1 hck; have hsz : sizes = Ws.sizes l wd := Ws.sz_end (hI.2.trans (by rw [show i = l.length by omega])) hck; have hfl : Ws.faults l wd = Ws.fc l wd l.length := (by rw [Ws.faults, if_pos hck]); simp only [hv1, hv2, hsz, hfl, hph.1, hph.2, hck, Ref.sameInts]; simp; done) | (obtain ⟨hv1, hv2⟩ := hj1.2 hbad; simp [hv1, hv2, b1, b2, b3, b4, b5, b6, Ref.sameInts]; done)
        refine q_end0 (v := .bool ((((((((Ref.sameInts (Ws.setR l at_ wd) set) && ((Ws.setErr l at_ wd) == v)) && (Ref.sameInts (Ws.sizes l wd) sizes)) && ((Ws.check l wd) == (Ws.check l wd))) && ((Ws.faults l wd) == (Ws.fc l wd l.length))) && ((Ws.check l wd) == (Ws.check l wd))) && (Ref.sameInts (Ws.phases l wd least) [])) && ((Ws.phErr l wd least) == 3))) (rt1 rfl (r_tmp rfl)) (i := 5) rfl ?_
        exact (by have hcc := congrArg (fun (y0 : Bool) => (.bool y0 : Value)) hr0; exact hcc)
      · simp only [Bool.or_eq_false_iff, decide_eq_false_iff_not, Int.not_lt] at hc43
        have hph := Ws.ph3 (least := least) hck (.inr (Ws.okWin_yes hc43))
        refine c_region ?_
        refine o_pure (p_move (v := .slice al l.length cl) rfl) rfl rfl rfl ?_
        refine o_pure (p_move (v := .int .i64 wd) rfl) rfl rfl rfl ?_
        refine o_pure (p_move (v := .int .i64 least) rfl) rfl rfl rfl ?_
        refine o_callM rfl (workPhases_ok l al cl wd least (by first | assumption | exact ⟨hwb, h200, hk0⟩)) hf47 (fun w hw => (rd_base (i := 5) rfl hl) w hw) rfl (fun _ _ _ _ ha hA => SlO.agree ha hA) ?_
        rintro ⟨a53, c54⟩ S51
        refine o_know (fun w hw => own_len (i := 0) (T := tInt) hw rfl) (fun hlr55 => ?_)
        refine o_pure (p_assign (v := .slice a53 ((Ws.ph l wd least l.length).1).length c54) rfl) rfl rfl rfl ?_
        refine o_nil ?_
        refine q_then ?_
        refine c_seq ?_
        refine c_region ?_
        refine o_call0 (v := .bool true) rfl (workBegun_ok ) hf48 (fun _ _ => trivial) rfl ?_
        refine o_pure (p_move (v := .bool true) rfl) rfl rfl rfl ?_
        refine o_unguard 104 rfl rfl ?_
        refine o_pure (p_move (v := .slice a3 (Ws.setR l at_ wd).length c4) rfl) rfl rfl rfl ?_
        refine o_unguard 104 rfl rfl ?_
        refine o_pure (p_move (v := .slice aset set.length cset) rfl) rfl rfl rfl ?_
        refine o_unguard 104 rfl rfl ?_
        refine o_call0 (v := .bool (Ref.sameInts (Ws.setR l at_ wd) set)) rfl (sameInts_ok (Ws.setR l at_ wd) a3 c4 set aset cset) hf31 (fun w hw => ⟨(rd_own (i := 5) rfl) w hw, (rd_loose (i := 2) rfl (fun hφ => hφ.elim)) w hw⟩) rfl ?_
        refine o_pure (p_pick_true (u := .bool (Ref.sameInts (Ws.setR l at_ wd) set)) rfl rfl) rfl rfl rfl ?_
        refine o_pure (p_move (v := .bool (Ref.sameInts (Ws.setR l at_ wd) set)) rfl) rfl rfl rfl ?_
        refine o_and (p := 113) 4 ((Ws.setErr l at_ wd) == v) ?_ ?_ ?_
        · intro hb56 hk
          skip
          refine o_unguard 109 rfl rfl ?_
          refine o_pure (p_move (v := .int .i64 (Ws.setErr l at_ wd)) rfl) rfl rfl rfl ?_
          refine o_unguard 109 rfl rfl ?_
          refine o_pure (p_move (v := .int .i64 v) rfl) rfl rfl rfl ?_
          refine o_unguard 109 rfl rfl ?_
          refine o_pure (p_eq (p := (Ws.setErr l at_ wd)) (q := v) rfl rfl) rfl rfl rfl ?_
          refine o_pure (p_pick_true (u := .bool ((Ws.setErr l at_ wd) == v)) rfl rfl) rfl rfl rfl ?_
          exact o_sub (Sub.cons rfl (Sub.skip rfl (Sub.skip rfl (Sub.skip rfl (Sub.skip rfl (Sub.skip rfl (Sub.refl _))))))) hk
        · intro hb56 hk
          refine o_guard_no rfl 109 rfl rfl rfl rfl rfl ?_
          refine o_guard_no rfl 109 rfl rfl rfl rfl rfl ?_
          refine o_guard_no rfl 109 rfl rfl rfl rfl rfl ?_
          refine o_pure (p_pick_false (v := .bool false) rfl rfl) rfl rfl rfl ?_
          exact o_sub (Sub.cons rfl (Sub.skip rfl (Sub.skip rfl (Sub.skip rfl (Sub.skip rfl (Sub.skip rfl (Sub.refl _))))))) hk
        refine o_pure (p_move (v := .bool ((Ref.sameInts (Ws.setR l at_ wd) set) && ((Ws.setErr l at_ wd) == v))) rfl) rfl rfl rfl ?_
        refine o_and (p := 118) 4 (Ref.sameInts (Ws.sizes l wd) sizes) ?_ ?_ ?_
        · intro hb57 hk
          simp only [Bool.and_eq_true, beq_iff_eq] at hb57
          refine o_unguard 114 rfl rfl ?_
          refine o_pure (p_move (v := .slice a8 (Ws.sizes l wd).length c9) rfl) rfl rfl rfl ?_
          refine o_unguard 114 rfl rfl ?_
          refine o_pure (p_move (v := .slice asizes sizes.length csizes) rfl) rfl rfl rfl ?_
          refine o_unguard 114 rfl rfl ?_
          refine o_call0 (v := .bool (Ref.sameInts (Ws.sizes l wd) sizes)) rfl (sameInts_ok (Ws.sizes l wd) a8 c9 sizes asizes csizes) hf31 (fun w hw => ⟨(rd_own (i := 4) rfl) w hw, (rd_own (i := 1) rfl) w hw⟩) rfl ?_
          refine o_pure (p_pick_true (u := .bool (Ref.sameInts (Ws.sizes l wd) sizes)) rfl rfl) rfl rfl rfl ?_
          exact o_sub (Sub.cons rfl (Sub.skip rfl (Sub.skip rfl (Sub.skip rfl (Sub.skip rfl (Sub.skip rfl (Sub.refl _))))))) hk
        · intro hb57 hk
          refine o_guard_no rfl 114 rfl rfl rfl rfl rfl ?_
          refine o_guard_no rfl 114 rfl rfl rfl rfl rfl ?_
          refine o_guard_no rfl 114 rfl rfl rfl rfl rfl ?_
          refine o_pure (p_pick_false (v := .bool false) rfl rfl) rfl rfl rfl ?_
          exact o_sub (Sub.cons rfl (Sub.skip rfl (Sub.skip rfl (Sub.skip rfl (Sub.skip rfl (Sub.skip rfl (Sub.refl _))))))) hk
        refine o_pure (p_move (v := .bool (((Ref.sameInts (Ws.setR l at_ wd) set) && ((Ws.setErr l at_ wd) == v)) && (Ref.sameInts (Ws.sizes l wd) sizes))) rfl) rfl rfl rfl ?_
        refine o_and (p := 123) 4 ((Ws.check l wd) == (Ws.check l wd)) ?_ ?_ ?_
        · intro hb58 hk
          simp only [Bool.and_eq_true, beq_iff_eq] at hb58
          refine o_unguard 119 rfl rfl ?_
          refine o_pure (p_move (v := .int .i64 (Ws.check l wd)) rfl) rfl rfl rfl ?_
          refine o_unguard 119 rfl rfl ?_
          refine o_pure (p_move (v := .int .i64 (Ws.check l wd)) rfl) rfl rfl rfl ?_
          refine o_unguard 119 rfl rfl ?_
          refine o_pure (p_eq (p := (Ws.check l wd)) (q := (Ws.check l wd)) rfl rfl) rfl rfl rfl ?_
          refine o_pure (p_pick_true (u := .bool ((Ws.check l wd) == (Ws.check l wd))) rfl rfl) rfl rfl rfl ?_
          exact o_sub (Sub.cons rfl (Sub.skip rfl (Sub.skip rfl (Sub.skip rfl (Sub.skip rfl (Sub.skip rfl (Sub.refl _))))))) hk
        · intro hb58 hk
          refine o_guard_no rfl 119 rfl rfl rfl rfl rfl ?_
          refine o_guard_no rfl 119 rfl rfl rfl rfl rfl ?_
          refine o_guard_no rfl 119 rfl rfl rfl rfl rfl ?_
          refine o_pure (p_pick_false (v := .bool false) rfl rfl) rfl rfl rfl ?_
          exact o_sub (Sub.cons rfl (Sub.skip rfl (Sub.skip rfl (Sub.skip rfl (Sub.skip rfl (Sub.skip rfl (Sub.refl _))))))) hk
        refine o_pure (p_move (v := .bool ((((Ref.sameInts (Ws.setR l at_ wd) set) && ((Ws.setErr l at_ wd) == v)) && (Ref.sameInts (Ws.sizes l wd) sizes)) && ((Ws.check l wd) == (Ws.check l wd)))) rfl) rfl rfl rfl ?_
        refine o_and (p := 128) 4 ((Ws.faults l wd) == (Ws.fc l wd l.length)) ?_ ?_ ?_
        · intro hb59 hk
          simp only [Bool.and_eq_true, beq_iff_eq] at hb59
          refine o_unguard 124 rfl rfl ?_
          refine o_pure (p_move (v := .int .i64 (Ws.faults l wd)) rfl) rfl rfl rfl ?_
          refine o_unguard 124 rfl rfl ?_
          refine o_pure (p_move (v := .int .i64 (Ws.fc l wd l.length)) rfl) rfl rfl rfl ?_
          refine o_unguard 124 rfl rfl ?_
          refine o_pure (p_eq (p := (Ws.faults l wd)) (q := (Ws.fc l wd l.length)) rfl rfl) rfl rfl rfl ?_
          refine o_pure (p_pick_true (u := .bool ((Ws.faults l wd) == (Ws.fc l wd l.length))) rfl rfl) rfl rfl rfl ?_
          exact o_sub (Sub.cons rfl (Sub.skip rfl (Sub.skip rfl (Sub.skip rfl (Sub.skip rfl (Sub.skip rfl (Sub.refl _))))))) hk
        · intro hb59 hk
          refine o_guard_no rfl 124 rfl rfl rfl rfl rfl ?_
          refine o_guard_no rfl 124 rfl rfl rfl rfl rfl ?_
          refine o_guard_no rfl 124 rfl rfl rfl rfl rfl ?_
          refine o_pure (p_pick_false (v := .bool false) rfl rfl) rfl rfl rfl ?_
          exact o_sub (Sub.cons rfl (Sub.skip rfl (Sub.skip rfl (Sub.skip rfl (Sub.skip rfl (Sub.skip rfl (Sub.refl _))))))) hk
        refine o_pure (p_move (v := .bool (((((Ref.sameInts (Ws.setR l at_ wd) set) && ((Ws.setErr l at_ wd) == v)) && (Ref.sameInts (Ws.sizes l wd) sizes)) && ((Ws.check l wd) == (Ws.check l wd))) && ((Ws.faults l wd) == (Ws.fc l wd l.length)))) rfl) rfl rfl rfl ?_
        refine o_and (p := 133) 4 ((Ws.check l wd) == (Ws.check l wd)) ?_ ?_ ?_
        · intro hb60 hk
          simp only [Bool.and_eq_true, beq_iff_eq] at hb60
          refine o_unguard 129 rfl rfl ?_
          refine o_pure (p_move (v := .int .i64 (Ws.check l wd)) rfl) rfl rfl rfl ?_
          refine o_unguard 129 rfl rfl ?_
          refine o_pure (p_move (v := .int .i64 (Ws.check l wd)) rfl) rfl rfl rfl ?_
          refine o_unguard 129 rfl rfl ?_
          refine o_pure (p_eq (p := (Ws.check l wd)) (q := (Ws.check l wd)) rfl rfl) rfl rfl rfl ?_
          refine o_pure (p_pick_true (u := .bool ((Ws.check l wd) == (Ws.check l wd))) rfl rfl) rfl rfl rfl ?_
          exact o_sub (Sub.cons rfl (Sub.skip rfl (Sub.skip rfl (Sub.skip rfl (Sub.skip rfl (Sub.skip rfl (Sub.refl _))))))) hk
        · intro hb60 hk
          refine o_guard_no rfl 129 rfl rfl rfl rfl rfl ?_
          refine o_guard_no rfl 129 rfl rfl rfl rfl rfl ?_
          refine o_guard_no rfl 129 rfl rfl rfl rfl rfl ?_
          refine o_pure (p_pick_false (v := .bool false) rfl rfl) rfl rfl rfl ?_
          exact o_sub (Sub.cons rfl (Sub.skip rfl (Sub.skip rfl (Sub.skip rfl (Sub.skip rfl (Sub.skip rfl (Sub.refl _))))))) hk
        refine o_pure (p_move (v := .bool ((((((Ref.sameInts (Ws.setR l at_ wd) set) && ((Ws.setErr l at_ wd) == v)) && (Ref.sameInts (Ws.sizes l wd) sizes)) && ((Ws.check l wd) == (Ws.check l wd))) && ((Ws.faults l wd) == (Ws.fc l wd l.length))) && ((Ws.check l wd) == (Ws.check l wd)))) rfl) rfl rfl rfl ?_
        refine o_and (p := 138) 4 (Ref.sameInts (Ws.phases l wd least) ((Ws.ph l wd least l.length).1)) ?_ ?_ ?_
        · intro hb61 hk
          simp only [Bool.and_eq_true, beq_iff_eq] at hb61
          refine o_unguard 134 rfl rfl ?_
          refine o_pure (p_move (v := .slice a13 (Ws.phases l wd least).length c14) rfl) rfl rfl rfl ?_
          refine o_unguard 134 rfl rfl ?_
          refine o_pure (p_move (v := .slice a53 ((Ws.ph l wd least l.length).1).length c54) rfl) rfl rfl rfl ?_
          refine o_unguard 134 rfl rfl ?_
          refine o_call0 (v := .bool (Ref.sameInts (Ws.phases l wd least) ((Ws.ph l wd least l.length).1))) rfl (sameInts_ok (Ws.phases l wd least) a13 c14 ((Ws.ph l wd least l.length).1) a53 c54) hf31 (fun w hw => ⟨(rd_own (i := 3) rfl) w hw, (rd_own (i := 0) rfl) w hw⟩) rfl ?_
          refine o_pure (p_pick_true (u := .bool (Ref.sameInts (Ws.phases l wd least) ((Ws.ph l wd least l.length).1))) rfl rfl) rfl rfl rfl ?_
          exact o_sub (Sub.cons rfl (Sub.skip rfl (Sub.skip rfl (Sub.skip rfl (Sub.skip rfl (Sub.skip rfl (Sub.refl _))))))) hk
        · intro hb61 hk
          refine o_guard_no rfl 134 rfl rfl rfl rfl rfl ?_
          refine o_guard_no rfl 134 rfl rfl rfl rfl rfl ?_
          refine o_guard_no rfl 134 rfl rfl rfl rfl rfl ?_
          refine o_pure (p_pick_false (v := .bool false) rfl rfl) rfl rfl rfl ?_
          exact o_sub (Sub.cons rfl (Sub.skip rfl (Sub.skip rfl (Sub.skip rfl (Sub.skip rfl (Sub.skip rfl (Sub.refl _))))))) hk
        refine o_pure (p_move (v := .bool (((((((Ref.sameInts (Ws.setR l at_ wd) set) && ((Ws.setErr l at_ wd) == v)) && (Ref.sameInts (Ws.sizes l wd) sizes)) && ((Ws.check l wd) == (Ws.check l wd))) && ((Ws.faults l wd) == (Ws.fc l wd l.length))) && ((Ws.check l wd) == (Ws.check l wd))) && (Ref.sameInts (Ws.phases l wd least) ((Ws.ph l wd least l.length).1)))) rfl) rfl rfl rfl ?_
        refine o_and (p := 143) 4 ((Ws.phErr l wd least) == (Ws.check l wd)) ?_ ?_ ?_
        · intro hb62 hk
          simp only [Bool.and_eq_true, beq_iff_eq] at hb62
          refine o_unguard 139 rfl rfl ?_
          refine o_pure (p_move (v := .int .i64 (Ws.phErr l wd least)) rfl) rfl rfl rfl ?_
          refine o_unguard 139 rfl rfl ?_
          refine o_pure (p_move (v := .int .i64 (Ws.check l wd)) rfl) rfl rfl rfl ?_
          refine o_unguard 139 rfl rfl ?_
          refine o_pure (p_eq (p := (Ws.phErr l wd least)) (q := (Ws.check l wd)) rfl rfl) rfl rfl rfl ?_
          refine o_pure (p_pick_true (u := .bool ((Ws.phErr l wd least) == (Ws.check l wd))) rfl rfl) rfl rfl rfl ?_
          exact o_sub (Sub.cons rfl (Sub.skip rfl (Sub.skip rfl (Sub.skip rfl (Sub.skip rfl (Sub.skip rfl (Sub.refl _))))))) hk
        · intro hb62 hk
          refine o_guard_no rfl 139 rfl rfl rfl rfl rfl ?_
          refine o_guard_no rfl 139 rfl rfl rfl rfl rfl ?_
          refine o_guard_no rfl 139 rfl rfl rfl rfl rfl ?_
          refine o_pure (p_pick_false (v := .bool false) rfl rfl) rfl rfl rfl ?_
          exact o_sub (Sub.cons rfl (Sub.skip rfl (Sub.skip rfl (Sub.skip rfl (Sub.skip rfl (Sub.skip rfl (Sub.refl _))))))) hk
        refine o_pure (p_assign (v := .bool ((((((((Ref.sameInts (Ws.setR l at_ wd) set) && ((Ws.setErr l at_ wd) == v)) && (Ref.sameInts (Ws.sizes l wd) sizes)) && ((Ws.check l wd) == (Ws.check l wd))) && ((Ws.faults l wd) == (Ws.fc l wd l.length))) && ((Ws.check l wd) == (Ws.check l wd))) && (Ref.sameInts (Ws.phases l wd least) ((Ws.ph l wd least l.length).1))) && ((Ws.phErr l wd least) == (Ws.check l wd)))) rfl) rfl rfl rfl ?_
        refine o_nil ?_
        refine q_then ?_
        refine c_ret ?_
        have hr0 : (((((((((Ref.sameInts (Ws.setR l at_ wd) set) && ((Ws.setErr l at_ wd) == v)) && (Ref.sameInts (Ws.sizes l wd) sizes)) && ((Ws.check l wd) == (Ws.check l wd))) && ((Ws.faults l wd) == (Ws.fc l wd l.length))) && ((Ws.check l wd) == (Ws.check l wd))) && (Ref.sameInts (Ws.phases l wd least) ((Ws.ph l wd least l.length).1))) && ((Ws.phErr l wd least) == (Ws.check l wd))) : Bool) = true := by
          first | (obtain ⟨hv1, hv2⟩ := hj1.1 hck; have hsz : sizes = Ws.sizes l wd := Ws.sz_end (hI.2.trans (by rw [show i = l.length by omega])) hck; have hfl : Ws.faults l wd = Ws.fc l wd l.length := (by rw [Ws.faults, if_pos hck]); simp only [hv1, hv2, hsz, hfl, hph.1, hph.2, hck, Ref.sameInts]; simp; done) | (obtain ⟨hv1, hv2⟩ := hj1.2 hbad; simp [hv1, hv2, b1, b2, b3, b4, b5, b6, Ref.sameInts]; done)
        refine q_end0 (v := .bool ((((((((Ref.sameInts (Ws.setR l at_ wd) set) && ((Ws.setErr l at_ wd) == v)) && (Ref.sameInts (Ws.sizes l wd) sizes)) && ((Ws.check l wd) == (Ws.check l wd))) && ((Ws.faults l wd) == (Ws.fc l wd l.length))) && ((Ws.check l wd) == (Ws.check l wd))) && (Ref.sameInts (Ws.phases l wd least) ((Ws.ph l wd least l.length).1))) && ((Ws.phErr l wd least) == (Ws.check l wd)))) (rt1 rfl (r_tmp rfl)) (i := 6) rfl ?_
        exact (by have hcc := congrArg (fun (y0 : Bool) => (.bool y0 : Value)) hr0; exact hcc)
  · simp only [beq_eq_false_iff_ne, ne_eq] at hc27
    have hbad := hc27
    obtain ⟨b1, b2, b3, b4, b5, b6⟩ := Ws.spec_bad hc27 at_ least
    refine c_skip ?_
    refine q_then ?_
    refine c_seq ?_
    refine c_region ?_
    refine o_call0 (v := .bool true) rfl (workBegun_ok ) hf48 (fun _ _ => trivial) rfl ?_
    refine o_pure (p_move (v := .bool true) rfl) rfl rfl rfl ?_
    refine o_unguard 104 rfl rfl ?_
    refine o_pure (p_move (v := .slice a3 (Ws.setR l at_ wd).length c4) rfl) rfl rfl rfl ?_
    refine o_unguard 104 rfl rfl ?_
    refine o_pure (p_move (v := .slice aset set.length cset) rfl) rfl rfl rfl ?_
    refine o_unguard 104 rfl rfl ?_
    refine o_call0 (v := .bool (Ref.sameInts (Ws.setR l at_ wd) set)) rfl (sameInts_ok (Ws.setR l at_ wd) a3 c4 set aset cset) hf31 (fun w hw => ⟨(rd_own (i := 3) rfl) w hw, (rd_loose (i := 0) rfl (fun hφ => hφ.elim)) w hw⟩) rfl ?_
    refine o_pure (p_pick_true (u := .bool (Ref.sameInts (Ws.setR l at_ wd) set)) rfl rfl) rfl rfl rfl ?_
    refine o_pure (p_move (v := .bool (Ref.sameInts (Ws.setR l at_ wd) set)) rfl) rfl rfl rfl ?_
    refine o_and (p := 113) 4 ((Ws.setErr l at_ wd) == v) ?_ ?_ ?_
    · intro hb63 hk
      skip
      refine o_unguard 109 rfl rfl ?_
      refine o_pure (p_move (v := .int .i64 (Ws.setErr l at_ wd)) rfl) rfl rfl rfl ?_
      refine o_unguard 109 rfl rfl ?_
      refine o_pure (p_move (v := .int .i64 v) rfl) rfl rfl rfl ?_
      refine o_unguard 109 rfl rfl ?_
      refine o_pure (p_eq (p := (Ws.setErr l at_ wd)) (q := v) rfl rfl) rfl rfl rfl ?_
      refine o_pure (p_pick_true (u := .bool ((Ws.setErr l at_ wd) == v)) rfl rfl) rfl rfl rfl ?_
      exact o_sub (Sub.cons rfl (Sub.skip rfl (Sub.skip rfl (Sub.skip rfl (Sub.skip rfl (Sub.skip rfl (Sub.refl _))))))) hk
    · intro hb63 hk
      refine o_guard_no rfl 109 rfl rfl rfl rfl rfl ?_
      refine o_guard_no rfl 109 rfl rfl rfl rfl rfl ?_
      refine o_guard_no rfl 109 rfl rfl rfl rfl rfl ?_
      refine o_pure (p_pick_false (v := .bool false) rfl rfl) rfl rfl rfl ?_
      exact o_sub (Sub.cons rfl (Sub.skip rfl (Sub.skip rfl (Sub.skip rfl (Sub.skip rfl (Sub.skip rfl (Sub.refl _))))))) hk
    refine o_pure (p_move (v := .bool ((Ref.sameInts (Ws.setR l at_ wd) set) && ((Ws.setErr l at_ wd) == v))) rfl) rfl rfl rfl ?_
    refine o_and (p := 118) 4 (Ref.sameInts (Ws.sizes l wd) []) ?_ ?_ ?_
    · intro hb64 hk
      simp only [Bool.and_eq_true, beq_iff_eq] at hb64
      refine o_unguard 114 rfl rfl ?_
      refine o_pure (p_move (v := .slice a8 (Ws.sizes l wd).length c9) rfl) rfl rfl rfl ?_
      refine o_unguard 114 rfl rfl ?_
      refine o_pure (p_move (v := .slice none 0 0) rfl) rfl rfl rfl ?_
      refine o_unguard 114 rfl rfl ?_
      refine o_call0 (v := .bool (Ref.sameInts (Ws.sizes l wd) [])) rfl (sameInts_ok (Ws.sizes l wd) a8 c9 [] none 0) hf31 (fun w hw => ⟨(rd_own (i := 2) rfl) w hw, rd_nil w hw⟩) rfl ?_
      refine o_pure (p_pick_true (u := .bool (Ref.sameInts (Ws.sizes l wd) [])) rfl rfl) rfl rfl rfl ?_
      exact o_sub (Sub.cons rfl (Sub.skip rfl (Sub.skip rfl (Sub.skip rfl (Sub.skip rfl (Sub.skip rfl (Sub.refl _))))))) hk
    · intro hb64 hk
      refine o_guard_no rfl 114 rfl rfl rfl rfl rfl ?_
      refine o_guard_no rfl 114 rfl rfl rfl rfl rfl ?_
      refine o_guard_no rfl 114 rfl rfl rfl rfl rfl ?_
      refine o_pure (p_pick_false (v := .bool false) rfl rfl) rfl rfl rfl ?_
      exact o_sub (Sub.cons rfl (Sub.skip rfl (Sub.skip rfl (Sub.skip rfl (Sub.skip rfl (Sub.skip rfl (Sub.refl _))))))) hk
    refine o_pure (p_move (v := .bool (((Ref.sameInts (Ws.setR l at_ wd) set) && ((Ws.setErr l at_ wd) == v)) && (Ref.sameInts (Ws.sizes l wd) []))) rfl) rfl rfl rfl ?_
    refine o_and (p := 123) 4 ((Ws.check l wd) == (Ws.check l wd)) ?_ ?_ ?_
    · intro hb65 hk
      simp only [Bool.and_eq_true, beq_iff_eq] at hb65
      refine o_unguard 119 rfl rfl ?_
      refine o_pure (p_move (v := .int .i64 (Ws.check l wd)) rfl) rfl rfl rfl ?_
      refine o_unguard 119 rfl rfl ?_
      refine o_pure (p_move (v := .int .i64 (Ws.check l wd)) rfl) rfl rfl rfl ?_
      refine o_unguard 119 rfl rfl ?_
      refine o_pure (p_eq (p := (Ws.check l wd)) (q := (Ws.check l wd)) rfl rfl) rfl rfl rfl ?_
      refine o_pure (p_pick_true (u := .bool ((Ws.check l wd) == (Ws.check l wd))) rfl rfl) rfl rfl rfl ?_
      exact o_sub (Sub.cons rfl (Sub.skip rfl (Sub.skip rfl (Sub.skip rfl (Sub.skip rfl (Sub.skip rfl (Sub.refl _))))))) hk
    · intro hb65 hk
      refine o_guard_no rfl 119 rfl rfl rfl rfl rfl ?_
      refine o_guard_no rfl 119 rfl rfl rfl rfl rfl ?_
      refine o_guard_no rfl 119 rfl rfl rfl rfl rfl ?_
      refine o_pure (p_pick_false (v := .bool false) rfl rfl) rfl rfl rfl ?_
      exact o_sub (Sub.cons rfl (Sub.skip rfl (Sub.skip rfl (Sub.skip rfl (Sub.skip rfl (Sub.skip rfl (Sub.refl _))))))) hk
    refine o_pure (p_move (v := .bool ((((Ref.sameInts (Ws.setR l at_ wd) set) && ((Ws.setErr l at_ wd) == v)) && (Ref.sameInts (Ws.sizes l wd) [])) && ((Ws.check l wd) == (Ws.check l wd)))) rfl) rfl rfl rfl ?_
    refine o_and (p := 128) 4 ((Ws.faults l wd) == 0) ?_ ?_ ?_
    · intro hb66 hk
      simp only [Bool.and_eq_true, beq_iff_eq] at hb66
      refine o_unguard 124 rfl rfl ?_
      refine o_pure (p_move (v := .int .i64 (Ws.faults l wd)) rfl) rfl rfl rfl ?_
      refine o_unguard 124 rfl rfl ?_
      refine o_pure (p_move (v := .int .i64 0) rfl) rfl rfl rfl ?_
      refine o_unguard 124 rfl rfl ?_
      refine o_pure (p_eq (p := (Ws.faults l wd)) (q := 0) rfl rfl) rfl rfl rfl ?_
      refine o_pure (p_pick_true (u := .bool ((Ws.faults l wd) == 0)) rfl rfl) rfl rfl rfl ?_
      exact o_sub (Sub.cons rfl (Sub.skip rfl (Sub.skip rfl (Sub.skip rfl (Sub.skip rfl (Sub.skip rfl (Sub.refl _))))))) hk
    · intro hb66 hk
      refine o_guard_no rfl 124 rfl rfl rfl rfl rfl ?_
      refine o_guard_no rfl 124 rfl rfl rfl rfl rfl ?_
      refine o_guard_no rfl 124 rfl rfl rfl rfl rfl ?_
      refine o_pure (p_pick_false (v := .bool false) rfl rfl) rfl rfl rfl ?_
      exact o_sub (Sub.cons rfl (Sub.skip rfl (Sub.skip rfl (Sub.skip rfl (Sub.skip rfl (Sub.skip rfl (Sub.refl _))))))) hk
    refine o_pure (p_move (v := .bool (((((Ref.sameInts (Ws.setR l at_ wd) set) && ((Ws.setErr l at_ wd) == v)) && (Ref.sameInts (Ws.sizes l wd) [])) && ((Ws.check l wd) == (Ws.check l wd))) && ((Ws.faults l wd) == 0))) rfl) rfl rfl rfl ?_
    refine o_and (p := 133) 4 ((Ws.check l wd) == (Ws.check l wd)) ?_ ?_ ?_
    · intro hb67 hk
      simp only [Bool.and_eq_true, beq_iff_eq] at hb67
      refine o_unguard 129 rfl rfl ?_
      refine o_pure (p_move (v := .int .i64 (Ws.check l wd)) rfl) rfl rfl rfl ?_
      refine o_unguard 129 rfl rfl ?_
      refine o_pure (p_move (v := .int .i64 (Ws.check l wd)) rfl) rfl rfl rfl ?_
      refine o_unguard 129 rfl rfl ?_
      refine o_pure (p_eq (p := (Ws.check l wd)) (q := (Ws.check l wd)) rfl rfl) rfl rfl rfl ?_
      refine o_pure (p_pick_true (u := .bool ((Ws.check l wd) == (Ws.check l wd))) rfl rfl) rfl rfl rfl ?_
      exact o_sub (Sub.cons rfl (Sub.skip rfl (Sub.skip rfl (Sub.skip rfl (Sub.skip rfl (Sub.skip rfl (Sub.refl _))))))) hk
    · intro hb67 hk
      refine o_guard_no rfl 129 rfl rfl rfl rfl rfl ?_
      refine o_guard_no rfl 129 rfl rfl rfl rfl rfl ?_
      refine o_guard_no rfl 129 rfl rfl rfl rfl rfl ?_
      refine o_pure (p_pick_false (v := .bool false) rfl rfl) rfl rfl rfl ?_
      exact o_sub (Sub.cons rfl (Sub.skip rfl (Sub.skip rfl (Sub.skip rfl (Sub.skip rfl (Sub.skip rfl (Sub.refl _))))))) hk
    refine o_pure (p_move (v := .bool ((((((Ref.sameInts (Ws.setR l at_ wd) set) && ((Ws.setErr l at_ wd) == v)) && (Ref.sameInts (Ws.sizes l wd) [])) && ((Ws.check l wd) == (Ws.check l wd))) && ((Ws.faults l wd) == 0)) && ((Ws.check l wd) == (Ws.check l wd)))) rfl) rfl rfl rfl ?_
    refine o_and (p := 138) 4 (Ref.sameInts (Ws.phases l wd least) []) ?_ ?_ ?_
    · intro hb68 hk
      simp only [Bool.and_eq_true, beq_iff_eq] at hb68
      refine o_unguard 134 rfl rfl ?_
      refine o_pure (p_move (v := .slice a13 (Ws.phases l wd least).length c14) rfl) rfl rfl rfl ?_
      refine o_unguard 134 rfl rfl ?_
      refine o_pure (p_move (v := .slice none 0 0) rfl) rfl rfl rfl ?_
      refine o_unguard 134 rfl rfl ?_
      refine o_call0 (v := .bool (Ref.sameInts (Ws.phases l wd least) [])) rfl (sameInts_ok (Ws.phases l wd least) a13 c14 [] none 0) hf31 (fun w hw => ⟨(rd_own (i := 1) rfl) w hw, rd_nil w hw⟩) rfl ?_
      refine o_pure (p_pick_true (u := .bool (Ref.sameInts (Ws.phases l wd least) [])) rfl rfl) rfl rfl rfl ?_
      exact o_sub (Sub.cons rfl (Sub.skip rfl (Sub.skip rfl (Sub.skip rfl (Sub.skip rfl (Sub.skip rfl (Sub.refl _))))))) hk
    · intro hb68 hk
      refine o_guard_no rfl 134 rfl rfl rfl rfl rfl ?_
      refine o_guard_no rfl 134 rfl rfl rfl rfl rfl ?_
      refine o_guard_no rfl 134 rfl rfl rfl rfl rfl ?_
      refine o_pure (p_pick_false (v := .bool false) rfl rfl) rfl rfl rfl ?_
      exact o_sub (Sub.cons rfl (Sub.skip rfl (Sub.skip rfl (Sub.skip rfl (Sub.skip rfl (Sub.skip rfl (Sub.refl _))))))) hk
    refine o_pure (p_move (v := .bool (((((((Ref.sameInts (Ws.setR l at_ wd) set) && ((Ws.setErr l at_ wd) == v)) && (Ref.sameInts (Ws.sizes l wd) [])) && ((Ws.check l wd) == (Ws.check l wd))) && ((Ws.faults l wd) == 0)) && ((Ws.check l wd) == (Ws.check l wd))) && (Ref.sameInts (Ws.phases l wd least) []))) rfl) rfl rfl rfl ?_
    refine o_and (p := 143) 4 ((Ws.phErr l wd least) == (Ws.check l wd)) ?_ ?_ ?_
    · intro hb69 hk
      simp only [Bool.and_eq_true, beq_iff_eq] at hb69
      refine o_unguard 139 rfl rfl ?_
      refine o_pure (p_move (v := .int .i64 (Ws.phErr l wd least)) rfl) rfl rfl rfl ?_
      refine o_unguard 139 rfl rfl ?_
      refine o_pure (p_move (v := .int .i64 (Ws.check l wd)) rfl) rfl rfl rfl ?_
      refine o_unguard 139 rfl rfl ?_
      refine o_pure (p_eq (p := (Ws.phErr l wd least)) (q := (Ws.check l wd)) rfl rfl) rfl rfl rfl ?_
      refine o_pure (p_pick_true (u := .bool ((Ws.phErr l wd least) == (Ws.check l wd))) rfl rfl) rfl rfl rfl ?_
      exact o_sub (Sub.cons rfl (Sub.skip rfl (Sub.skip rfl (Sub.skip rfl (Sub.skip rfl (Sub.skip rfl (Sub.refl _))))))) hk
    · intro hb69 hk
      refine o_guard_no rfl 139 rfl rfl rfl rfl rfl ?_
      refine o_guard_no rfl 139 rfl rfl rfl rfl rfl ?_
      refine o_guard_no rfl 139 rfl rfl rfl rfl rfl ?_
      refine o_pure (p_pick_false (v := .bool false) rfl rfl) rfl rfl rfl ?_
      exact o_sub (Sub.cons rfl (Sub.skip rfl (Sub.skip rfl (Sub.skip rfl (Sub.skip rfl (Sub.skip rfl (Sub.refl _))))))) hk
    refine o_pure (p_assign (v := .bool ((((((((Ref.sameInts (Ws.setR l at_ wd) set) && ((Ws.setErr l at_ wd) == v)) && (Ref.sameInts (Ws.sizes l wd) [])) && ((Ws.check l wd) == (Ws.check l wd))) && ((Ws.faults l wd) == 0)) && ((Ws.check l wd) == (Ws.check l wd))) && (Ref.sameInts (Ws.phases l wd least) [])) && ((Ws.phErr l wd least) == (Ws.check l wd)))) rfl) rfl rfl rfl ?_
    refine o_nil ?_
    refine q_then ?_
    refine c_ret ?_
    have hr0 : (((((((((Ref.sameInts (Ws.setR l at_ wd) set) && ((Ws.setErr l at_ wd) == v)) && (Ref.sameInts (Ws.sizes l wd) [])) && ((Ws.check l wd) == (Ws.check l wd))) && ((Ws.faults l wd) == 0)) && ((Ws.check l wd) == (Ws.check l wd))) && (Ref.sameInts (Ws.phases l wd least) [])) && ((Ws.phErr l wd least) == (Ws.check l wd))) : Bool) = true := by
      first | (obtain ⟨hv1, hv2⟩ := hj1.1 hck; have hsz : sizes = Ws.sizes l wd := Ws.sz_end (hI.2.trans (by rw [show i = l.length by omega])) hck; have hfl : Ws.faults l wd = Ws.fc l wd l.length := (by rw [Ws.faults, if_pos hck]); simp only [hv1, hv2, hsz, hfl, hph.1, hph.2, hck, Ref.sameInts]; simp; done) | (obtain ⟨hv1, hv2⟩ := hj1.2 hbad; simp [hv1, hv2, b1, b2, b3, b4, b5, b6, Ref.sameInts]; done)
    refine q_end0 (v := .bool ((((((((Ref.sameInts (Ws.setR l at_ wd) set) && ((Ws.setErr l at_ wd) == v)) && (Ref.sameInts (Ws.sizes l wd) [])) && ((Ws.check l wd) == (Ws.check l wd))) && ((Ws.faults l wd) == 0)) && ((Ws.check l wd) == (Ws.check l wd))) && (Ref.sameInts (Ws.phases l wd least) [])) && ((Ws.phErr l wd least) == (Ws.check l wd)))) (rt1 rfl (r_tmp rfl)) (i := 4) rfl ?_
    exact (by have hcc := congrArg (fun (y0 : Bool) => (.bool y0 : Value)) hr0; exact hcc)
end Go.Proofs.Ythecfjipaepcgaa
