/- The walks, printed by a program from the translation and a specification. -/
import Derived.Test.YtgjdmnljnimamaaRgF
import Derived.Test.YtgjdmnljnimamaaRgLaw3
import Derived.Test.YtgjdmnljnimamaaRgW9
import Derived.Test.YtgjdmnljnimamaaRgW7
import Derived.Test.YtgjdmnljnimamaaRgW8
namespace Go.Proofs.Ytgjdmnljnimamaa
open Go.Sx Go.RowKit
set_option maxHeartbeats 8000000 in
set_option maxRecDepth 100000 in
theorem ringSpec_ok (l : List DPoint) (al : Option Addr) (cl : Nat) (a : Int) (s : Int) (n : Int) (ps : List Int) (aps : Option Addr) (cps : Nat) : Fn0 Try.prog 3 [.slice al l.length cl, .int .i64 a, .int .i64 s, .int .i64 n, .slice aps ps.length cps] (fun w => Rd tPoint w al cl l ∧ Rd tInt w aps cps ps) (.bool true) := by
  refine fn0 (nt := 183) (F0 := [(0, .slice al l.length cl), (1, .int .i64 a), (2, .int .i64 s), (3, .int .i64 n), (4, .slice aps ps.length cps)]) Try.func3 rfl Try.ntmps3 rfl rfl (fun w0 hpre => ?_)
  obtain ⟨hl, hps⟩ := hpre
  have hlhl := hl.2.1
  have hlhps := hps.2.1
  refine c_seq ?_
  refine c_region ?_
  refine o_pure (p_assign (v := .bool false) rfl) rfl rfl rfl ?_
  refine o_nil ?_
  refine q_then ?_
  refine c_seq ?_
  refine c_region ?_
  refine o_pure (p_move (v := .slice aps ps.length cps) rfl) rfl rfl rfl ?_
  refine o_pure (p_move (v := .slice aps ps.length cps) rfl) rfl rfl rfl ?_
  refine o_pure (p_len_slice (len := ps.length) rfl rfl Try.underlying23) rfl rfl rfl ?_
  refine o_pure (p_min (p := (ps.length : Int)) (q := 70) rfl rfl) rfl rfl rfl ?_
  refine o_pure (p_sliceH (L := ps) (T := tInt) (h := (min (ps.length : Int) 70)) rfl rfl Try.underlying23 sz3 (by omega) (by omega) (rd_base (i := 0) rfl hps)) rfl rfl rfl ?_
  refine o_pure (p_assign (v := .slice aps (ps.take ((min (ps.length : Int) 70).toNat)).length cps) rfl) rfl rfl rfl ?_
  refine o_nil ?_
  refine q_then ?_
  refine c_seq ?_
  refine c_region ?_
  refine o_pure (p_move (v := .slice al l.length cl) rfl) rfl rfl rfl ?_
  refine o_pure (p_move (v := .int .i64 a) rfl) rfl rfl rfl ?_
  refine o_call0 (v := .tuple #[.int .i64 (Rg.owner l a), .int .i64 (Rg.ownErr l a)]) rfl (rowner_ok l al cl a) hf15 (fun w hw => (rd_base (i := 0) rfl hl) w hw) rfl ?_
  refine o_pure (p_move (v := .tuple #[.int .i64 (Rg.owner l a), .int .i64 (Rg.ownErr l a)]) rfl) rfl rfl rfl ?_
  refine o_pure (p_extract (vs := [.int .i64 (Rg.owner l a), .int .i64 (Rg.ownErr l a)]) (v := .int .i64 (Rg.owner l a)) rfl rfl) rfl rfl rfl ?_
  refine o_pure (p_extract (vs := [.int .i64 (Rg.owner l a), .int .i64 (Rg.ownErr l a)]) (v := .int .i64 (Rg.ownErr l a)) rfl rfl) rfl rfl rfl ?_
  refine o_pure (p_assign (v := .int .i64 (Rg.owner l a)) rfl) rfl rfl rfl ?_
  refine o_pure (p_assign (v := .int .i64 (Rg.ownErr l a)) rfl) rfl rfl rfl ?_
  refine o_nil ?_
  refine q_then ?_
  refine c_seq ?_
  refine c_region ?_
  refine o_pure (p_move (v := .slice al l.length cl) rfl) rfl rfl rfl ?_
  refine o_pure (p_move (v := .int .i64 s) rfl) rfl rfl rfl ?_
  refine o_pure (p_move (v := .slice aps (ps.take ((min (ps.length : Int) 70).toNat)).length cps) rfl) rfl rfl rfl ?_
  refine o_callM rfl (radd_ok l al cl s (ps.take ((min (ps.length : Int) 70).toNat)) aps cps) hf16 (fun w hw => ⟨(rd_base (i := 0) rfl hl) w hw, (rd_takeC (hi := (min (ps.length : Int) 70).toNat) (rd_base (i := 0) rfl hps) (by omega)) w hw⟩) rfl (fun _ _ _ _ ha hA => SlO.agree ha hA) ?_
  rintro ⟨a3, c4⟩ S1
  refine o_know (fun w hw => own_len (i := 0) (T := tPoint) hw rfl) (fun hlr5 => ?_)
  refine o_pure (p_move (v := .tuple #[.slice a3 (Rg.add l s (ps.take ((min (ps.length : Int) 70).toNat))).length c4, .int .i64 (Rg.addErr l s (ps.take ((min (ps.length : Int) 70).toNat)))]) rfl) rfl rfl rfl ?_
  refine o_pure (p_extract (vs := [.slice a3 (Rg.add l s (ps.take ((min (ps.length : Int) 70).toNat))).length c4, .int .i64 (Rg.addErr l s (ps.take ((min (ps.length : Int) 70).toNat)))]) (v := .slice a3 (Rg.add l s (ps.take ((min (ps.length : Int) 70).toNat))).length c4) rfl rfl) rfl rfl rfl ?_
  refine o_pure (p_extract (vs := [.slice a3 (Rg.add l s (ps.take ((min (ps.length : Int) 70).toNat))).length c4, .int .i64 (Rg.addErr l s (ps.take ((min (ps.length : Int) 70).toNat)))]) (v := .int .i64 (Rg.addErr l s (ps.take ((min (ps.length : Int) 70).toNat)))) rfl rfl) rfl rfl rfl ?_
  refine o_pure (p_assign (v := .slice a3 (Rg.add l s (ps.take ((min (ps.length : Int) 70).toNat))).length c4) rfl) rfl rfl rfl ?_
  refine o_pure (p_assign (v := .int .i64 (Rg.addErr l s (ps.take ((min (ps.length : Int) 70).toNat)))) rfl) rfl rfl rfl ?_
  refine o_nil ?_
  refine q_then ?_
  refine c_seq ?_
  refine c_region ?_
  refine o_pure (p_move (v := .slice al l.length cl) rfl) rfl rfl rfl ?_
  refine o_pure (p_move (v := .int .i64 s) rfl) rfl rfl rfl ?_
  refine o_callM rfl (rremove_ok l al cl s) hf17 (fun w hw => (rd_base (i := 1) rfl hl) w hw) rfl (fun _ _ _ _ ha hA => SlO.agree ha hA) ?_
  rintro ⟨a8, c9⟩ S6
  refine o_know (fun w hw => own_len (i := 0) (T := tPoint) hw rfl) (fun hlr10 => ?_)
  refine o_pure (p_move (v := .tuple #[.slice a8 (Rg.rem l s).length c9, .int .i64 (Rg.remErr l s)]) rfl) rfl rfl rfl ?_
  refine o_pure (p_extract (vs := [.slice a8 (Rg.rem l s).length c9, .int .i64 (Rg.remErr l s)]) (v := .slice a8 (Rg.rem l s).length c9) rfl rfl) rfl rfl rfl ?_
  refine o_pure (p_extract (vs := [.slice a8 (Rg.rem l s).length c9, .int .i64 (Rg.remErr l s)]) (v := .int .i64 (Rg.remErr l s)) rfl rfl) rfl rfl rfl ?_
  refine o_pure (p_assign (v := .slice a8 (Rg.rem l s).length c9) rfl) rfl rfl rfl ?_
  refine o_pure (p_assign (v := .int .i64 (Rg.remErr l s)) rfl) rfl rfl rfl ?_
  refine o_nil ?_
  refine q_then ?_
  refine c_seq ?_
  refine c_region ?_
  refine o_pure (p_move (v := .slice al l.length cl) rfl) rfl rfl rfl ?_
  refine o_pure (p_move (v := .int .i64 n) rfl) rfl rfl rfl ?_
  refine o_callM rfl (rshares_ok l al cl n) hf18 (fun w hw => (rd_base (i := 2) rfl hl) w hw) rfl (fun _ _ _ _ ha hA => SlO.agree ha hA) ?_
  rintro ⟨a13, c14⟩ S11
  refine o_know (fun w hw => own_len (i := 0) (T := tInt) hw rfl) (fun hlr15 => ?_)
  refine o_pure (p_move (v := .tuple #[.slice a13 (Rg.shares l n).length c14, .int .i64 (Rg.shErr l n)]) rfl) rfl rfl rfl ?_
  refine o_pure (p_extract (vs := [.slice a13 (Rg.shares l n).length c14, .int .i64 (Rg.shErr l n)]) (v := .slice a13 (Rg.shares l n).length c14) rfl rfl) rfl rfl rfl ?_
  refine o_pure (p_extract (vs := [.slice a13 (Rg.shares l n).length c14, .int .i64 (Rg.shErr l n)]) (v := .int .i64 (Rg.shErr l n)) rfl rfl) rfl rfl rfl ?_
  refine o_pure (p_assign (v := .slice a13 (Rg.shares l n).length c14) rfl) rfl rfl rfl ?_
  refine o_pure (p_assign (v := .int .i64 (Rg.shErr l n)) rfl) rfl rfl rfl ?_
  refine o_nil ?_
  refine q_then ?_
  refine c_seq ?_
  refine c_region ?_
  refine o_pure (p_move (v := .slice al l.length cl) rfl) rfl rfl rfl ?_
  refine o_call0 (v := .int .i64 (Rg.check l)) rfl (rfcheck_ok l al cl) hf19 (fun w hw => (rd_base (i := 3) rfl hl) w hw) rfl ?_
  refine o_pure (p_assign (v := .int .i64 (Rg.check l)) rfl) rfl rfl rfl ?_
  refine o_nil ?_
  refine q_then ?_
  refine c_seq ?_
  refine c_region ?_
  refine o_pure (p_move (v := .int .i64 (Rg.check l)) rfl) rfl rfl rfl ?_
  refine o_pure (p_move (v := .int .i64 (Rg.check l)) rfl) rfl rfl rfl ?_
  refine o_pure (p_move (v := .int .i64 (Rg.check l)) rfl) rfl rfl rfl ?_
  refine o_pure (p_move (v := .int .i64 (Rg.check l)) rfl) rfl rfl rfl ?_
  refine o_pure (p_assign (v := .int .i64 (Rg.check l)) rfl) rfl rfl rfl ?_
  refine o_pure (p_assign (v := .int .i64 (Rg.check l)) rfl) rfl rfl rfl ?_
  refine o_pure (p_assign (v := .int .i64 (Rg.check l)) rfl) rfl rfl rfl ?_
  refine o_pure (p_assign (v := .int .i64 (Rg.check l)) rfl) rfl rfl rfl ?_
  refine o_nil ?_
  refine q_then ?_
  refine c_seq ?_
  refine c_region ?_
  refine o_pure (p_assign (v := .int .i64 0) rfl) rfl rfl rfl ?_
  refine o_nil ?_
  refine q_then ?_
  refine c_seq ?_
  refine c_region ?_
  refine o_pure (p_assign (v := .slice none 0 0) rfl) rfl rfl rfl ?_
  refine o_pure (p_assign (v := .slice none 0 0) rfl) rfl rfl rfl ?_
  refine o_nil ?_
  refine q_then ?_
  refine c_seq ?_
  refine c_region ?_
  refine o_pure (p_assign (v := .slice none 0 0) rfl) rfl rfl rfl ?_
  refine o_nil ?_
  refine q_then ?_
  refine c_seq ?_
  refine c_seq ?_
  refine c_region ?_
  refine o_pure (p_move (v := .int .i64 (Rg.check l)) rfl) rfl rfl rfl ?_
  refine o_pure (p_eq (p := (Rg.check l)) (q := 0) rfl rfl) rfl rfl rfl ?_
  refine o_nil ?_
  refine q_then ?_
  refine c_cond (b := ((Rg.check l) == 0)) rfl (fun hc16 => ?_) (fun hc16 => ?_)
  · simp only [beq_iff_eq] at hc16
    have hck := hc16
    have hok := Rg.check_ok.1 hck
    have hlen := hok.len
    refine c_seq ?_
    refine c_seq ?_
    refine c_region ?_
    refine o_pure (p_move (v := .int .i64 a) rfl) rfl rfl rfl ?_
    refine o_pure (p_lt (p := a) (q := 0) rfl rfl) rfl rfl rfl ?_
    refine o_pure (p_move (v := .bool (decide (a < 0))) rfl) rfl rfl rfl ?_
    refine o_or (p := 73) 3 (decide (65535 < a)) ?_ ?_ ?_
    · intro hb17 hk
      simp only [decide_eq_false_iff_not, Int.not_lt] at hb17
      refine o_unguard 70 rfl rfl ?_
      refine o_pure (p_move (v := .int .i64 a) rfl) rfl rfl rfl ?_
      refine o_unguard 70 rfl rfl ?_
      refine o_pure (p_gt (p := a) (q := 65535) rfl rfl) rfl rfl rfl ?_
      refine o_pure (p_pick_false (v := .bool (decide (65535 < a))) rfl rfl) rfl rfl rfl ?_
      exact o_sub (Sub.cons rfl (Sub.skip rfl (Sub.skip rfl (Sub.skip rfl (Sub.skip rfl (Sub.refl _)))))) hk
    · intro hb17 hk
      refine o_guard_no rfl 70 rfl rfl rfl rfl rfl ?_
      refine o_guard_no rfl 70 rfl rfl rfl rfl rfl ?_
      refine o_pure (p_pick_true (u := .bool true) rfl rfl) rfl rfl rfl ?_
      exact o_sub (Sub.cons rfl (Sub.skip rfl (Sub.skip rfl (Sub.skip rfl (Sub.skip rfl (Sub.refl _)))))) hk
    refine o_nil ?_
    refine q_then ?_
    refine c_join (G := Int × Int)
      (fun ⟨w, owner⟩ => [(0, .slice al l.length cl), (2, .int .i64 s), (3, .int .i64 n), (4, .slice aps (ps.take ((min (ps.length : Int) 70).toNat)).length cps), (11, .int .i64 (Rg.owner l a)), (12, .int .i64 (Rg.ownErr l a)), (13, .slice a3 (Rg.add l s (ps.take ((min (ps.length : Int) 70).toNat))).length c4), (14, .int .i64 (Rg.addErr l s (ps.take ((min (ps.length : Int) 70).toNat)))), (15, .slice a8 (Rg.rem l s).length c9), (16, .int .i64 (Rg.remErr l s)), (17, .slice a13 (Rg.shares l n).length c14), (18, .int .i64 (Rg.shErr l n)), (19, .int .i64 (Rg.check l)), (20, .int .i64 w), (22, .int .i64 (Rg.check l)), (23, .int .i64 (Rg.check l)), (24, .int .i64 owner), (26, .slice none 0 0), (27, .slice none 0 0)])
      (fun ⟨w, owner⟩ => [own tInt S11 a13 c14 (Rg.shares l n), own tPoint S6 a8 c9 (Rg.rem l s), own tPoint S1 a3 c4 (Rg.add l s (ps.take ((min (ps.length : Int) 70).toNat))), base w0])
      (fun ⟨w, owner⟩ => w = Rg.ownErr l a ∧ owner = Rg.owner l a)
      (fun K hK18 => ?_) ?_
    · refine c_cond (b := (decide (a < 0) || decide (65535 < a))) rfl (fun hc19 => ?_) (fun hc19 => ?_)
      · simp only [Bool.or_eq_true, decide_eq_true_eq] at hc19
        refine c_region ?_
        refine o_pure (p_assign (v := .int .i64 3) rfl) rfl rfl rfl ?_
        refine o_nil ?_
        refine q_join hK18 (3, 0) ?_ (Sub.cons rfl (Sub.cons rfl (Sub.cons rfl (Sub.cons rfl (Sub.cons rfl (Sub.cons rfl (Sub.cons rfl (Sub.cons rfl (Sub.cons rfl (Sub.cons rfl (Sub.cons rfl (Sub.cons rfl (Sub.cons rfl (Sub.cons rfl (Sub.cons rfl (Sub.cons rfl (Sub.cons rfl (Sub.cons rfl (Sub.cons rfl (Sub.nil _)))))))))))))))))))) (fun _ hw => HeapIs.pick hw [0, 1, 2, 3] (by decide) rfl)
        clear hK18
        first | exact Rg.jw1 hck (by omega) | exact Rg.jw2 hck (by omega) (by omega) | exact Rg.jw3 hck (by omega) (by omega)
      · simp only [Bool.or_eq_false_iff, decide_eq_false_iff_not, Int.not_lt] at hc19
        refine c_seq ?_
        refine c_region ?_
        refine o_pure (p_move (v := .slice al l.length cl) rfl) rfl rfl rfl ?_
        refine o_pure (p_len_slice (len := l.length) rfl rfl Try.underlying22) rfl rfl rfl ?_
        refine o_pure (p_eq (p := (l.length : Int)) (q := 0) rfl rfl) rfl rfl rfl ?_
        refine o_nil ?_
        refine q_then ?_
        refine c_cond (b := ((l.length : Int) == 0)) rfl (fun hc20 => ?_) (fun hc20 => ?_)
        · simp only [beq_iff_eq] at hc20
          refine c_region ?_
          refine o_pure (p_assign (v := .int .i64 5) rfl) rfl rfl rfl ?_
          refine o_nil ?_
          refine q_join hK18 (5, 0) ?_ (Sub.cons rfl (Sub.cons rfl (Sub.cons rfl (Sub.cons rfl (Sub.cons rfl (Sub.cons rfl (Sub.cons rfl (Sub.cons rfl (Sub.cons rfl (Sub.cons rfl (Sub.cons rfl (Sub.cons rfl (Sub.cons rfl (Sub.cons rfl (Sub.cons rfl (Sub.cons rfl (Sub.cons rfl (Sub.cons rfl (Sub.cons rfl (Sub.nil _)))))))))))))))))))) (fun _ hw => HeapIs.pick hw [0, 1, 2, 3] (by decide) rfl)
          clear hK18
          first | exact Rg.jw1 hck (by omega) | exact Rg.jw2 hck (by omega) (by omega) | exact Rg.jw3 hck (by omega) (by omega)
        · simp only [beq_eq_false_iff_ne, ne_eq] at hc20
          refine c_region ?_
          refine o_pure (p_move (v := .slice al l.length cl) rfl) rfl rfl rfl ?_
          refine o_pure (p_move (v := .int .i64 a) rfl) rfl rfl rfl ?_
          refine o_call0 (v := .int .i64 (Rg.ownGo l a)) rfl (rfowner_ok l al cl a (by omega)) hf20 (fun w hw => (rd_base (i := 3) rfl hl) w hw) rfl ?_
          refine o_pure (p_assign (v := .int .i64 (Rg.ownGo l a)) rfl) rfl rfl rfl ?_
          refine o_nil ?_
          refine q_join hK18 ((Rg.check l), (Rg.ownGo l a)) ?_ (Sub.cons rfl (Sub.cons rfl (Sub.cons rfl (Sub.cons rfl (Sub.cons rfl (Sub.cons rfl (Sub.cons rfl (Sub.cons rfl (Sub.cons rfl (Sub.cons rfl (Sub.cons rfl (Sub.cons rfl (Sub.cons rfl (Sub.cons rfl (Sub.cons rfl (Sub.cons rfl (Sub.cons rfl (Sub.cons rfl (Sub.cons rfl (Sub.nil _)))))))))))))))))))) (fun _ hw => HeapIs.pick hw [0, 1, 2, 3] (by decide) rfl)
          clear hK18
          first | exact Rg.jw1 hck (by omega) | exact Rg.jw2 hck (by omega) (by omega) | exact Rg.jw3 hck (by omega) (by omega)
    rintro ⟨w, owner⟩ hj1
    show SQ _ 183 w0 _ _ [(0, .slice al l.length cl), (2, .int .i64 s), (3, .int .i64 n), (4, .slice aps (ps.take ((min (ps.length : Int) 70).toNat)).length cps), (11, .int .i64 (Rg.owner l a)), (12, .int .i64 (Rg.ownErr l a)), (13, .slice a3 (Rg.add l s (ps.take ((min (ps.length : Int) 70).toNat))).length c4), (14, .int .i64 (Rg.addErr l s (ps.take ((min (ps.length : Int) 70).toNat)))), (15, .slice a8 (Rg.rem l s).length c9), (16, .int .i64 (Rg.remErr l s)), (17, .slice a13 (Rg.shares l n).length c14), (18, .int .i64 (Rg.shErr l n)), (19, .int .i64 (Rg.check l)), (20, .int .i64 w), (22, .int .i64 (Rg.check l)), (23, .int .i64 (Rg.check l)), (24, .int .i64 owner), (26, .slice none 0 0), (27, .slice none 0 0)] [own tInt S11 a13 c14 (Rg.shares l n), own tPoint S6 a8 c9 (Rg.rem l s), own tPoint S1 a3 c4 (Rg.add l s (ps.take ((min (ps.length : Int) 70).toNat))), base w0]
    refine q_then ?_
    refine c_seq ?_
    refine c_region ?_
    refine o_pure (p_move (v := .slice al l.length cl) rfl) rfl rfl rfl ?_
    refine o_pure (p_move (v := .int .i64 s) rfl) rfl rfl rfl ?_
    refine o_pure (p_move (v := .slice aps (ps.take ((min (ps.length : Int) 70).toNat)).length cps) rfl) rfl rfl rfl ?_
    refine o_callM rfl (rfadd_ok l al cl s (ps.take ((min (ps.length : Int) 70).toNat)) aps cps (by first | assumption | exact ⟨hok, by simp only [List.length_take]; omega⟩)) hf21 (fun w hw => ⟨(rd_base (i := 3) rfl hl) w hw, (rd_takeC (hi := (min (ps.length : Int) 70).toNat) (rd_base (i := 3) rfl hps) (by omega)) w hw⟩) rfl (fun _ _ _ _ ha hA => SlO.agree ha hA) ?_
    rintro ⟨a23, c24⟩ S21
    refine o_know (fun w hw => own_len (i := 0) (T := tPoint) hw rfl) (fun hlr25 => ?_)
    refine o_pure (p_move (v := .tuple #[.slice a23 (Rg.add l s (ps.take ((min (ps.length : Int) 70).toNat))).length c24, .int .i64 (Rg.addErr l s (ps.take ((min (ps.length : Int) 70).toNat)))]) rfl) rfl rfl rfl ?_
    refine o_pure (p_extract (vs := [.slice a23 (Rg.add l s (ps.take ((min (ps.length : Int) 70).toNat))).length c24, .int .i64 (Rg.addErr l s (ps.take ((min (ps.length : Int) 70).toNat)))]) (v := .slice a23 (Rg.add l s (ps.take ((min (ps.length : Int) 70).toNat))).length c24) rfl rfl) rfl rfl rfl ?_
    refine o_pure (p_extract (vs := [.slice a23 (Rg.add l s (ps.take ((min (ps.length : Int) 70).toNat))).length c24, .int .i64 (Rg.addErr l s (ps.take ((min (ps.length : Int) 70).toNat)))]) (v := .int .i64 (Rg.addErr l s (ps.take ((min (ps.length : Int) 70).toNat)))) rfl rfl) rfl rfl rfl ?_
    refine o_pure (p_assign (v := .slice a23 (Rg.add l s (ps.take ((min (ps.length : Int) 70).toNat))).length c24) rfl) rfl rfl rfl ?_
    refine o_pure (p_assign (v := .int .i64 (Rg.addErr l s (ps.take ((min (ps.length : Int) 70).toNat)))) rfl) rfl rfl rfl ?_
    refine o_nil ?_
    refine q_then ?_
    refine c_seq ?_
    refine c_seq ?_
    refine c_region ?_
    refine o_pure (p_assign (v := .int .i64 0) rfl) rfl rfl rfl ?_
    refine o_nil ?_
    refine q_then ?_
    refine c_block ?_
    refine c_ownNil tPoint ?_
    refine c_loop (St := List DPoint × Option Addr × Nat × (Nat → Prop) × Nat)
      (fun ⟨drop_, adrop_, cdrop_, Sdrop_, i⟩ => [(0, .slice al l.length cl), (2, .int .i64 s), (3, .int .i64 n), (11, .int .i64 (Rg.owner l a)), (12, .int .i64 (Rg.ownErr l a)), (13, .slice a3 (Rg.add l s (ps.take ((min (ps.length : Int) 70).toNat))).length c4), (14, .int .i64 (Rg.addErr l s (ps.take ((min (ps.length : Int) 70).toNat)))), (15, .slice a8 (Rg.rem l s).length c9), (16, .int .i64 (Rg.remErr l s)), (17, .slice a13 (Rg.shares l n).length c14), (18, .int .i64 (Rg.shErr l n)), (19, .int .i64 (Rg.check l)), (20, .int .i64 w), (21, .int .i64 (Rg.addErr l s (ps.take ((min (ps.length : Int) 70).toNat)))), (22, .int .i64 (Rg.check l)), (23, .int .i64 (Rg.check l)), (24, .int .i64 owner), (25, .slice a23 (Rg.add l s (ps.take ((min (ps.length : Int) 70).toNat))).length c24), (26, .slice adrop_ drop_.length cdrop_), (27, .slice none 0 0), (28, .int .i64 (i : Int))])
      (fun ⟨drop_, adrop_, cdrop_, Sdrop_, i⟩ => [own tPoint Sdrop_ adrop_ cdrop_ drop_, own tPoint S21 a23 c24 (Rg.add l s (ps.take ((min (ps.length : Int) 70).toNat))), own tInt S11 a13 c14 (Rg.shares l n), own tPoint S6 a8 c9 (Rg.rem l s), own tPoint S1 a3 c4 (Rg.add l s (ps.take ((min (ps.length : Int) 70).toNat))), base w0])
      (fun ⟨drop_, adrop_, cdrop_, Sdrop_, i⟩ => Rg.RmI l s drop_ i)
      (fun ⟨drop_, adrop_, cdrop_, Sdrop_, i⟩ => l.length - i)
      ([], none, 0, (fun _ => False), 0) ?_ (Sub.cons rfl (Sub.cons rfl (Sub.cons rfl (Sub.cons rfl (Sub.cons rfl (Sub.cons rfl (Sub.cons rfl (Sub.cons rfl (Sub.cons rfl (Sub.cons rfl (Sub.cons rfl (Sub.cons rfl (Sub.cons rfl (Sub.cons rfl (Sub.cons rfl (Sub.cons rfl (Sub.cons rfl (Sub.cons rfl (Sub.cons rfl (Sub.cons rfl (Sub.cons rfl (Sub.nil _)))))))))))))))))))))) (fun _ hw => hw) ?_
    · exact Rg.RmI.start _ _
    rintro ⟨drop_, adrop_, cdrop_, Sdrop_, i⟩ hI K hK27
    have hdl := hI.len
    have hdi := hI.1
    show SC _ _ Try.prog 183 w0 _ _ [(0, .slice al l.length cl), (2, .int .i64 s), (3, .int .i64 n), (11, .int .i64 (Rg.owner l a)), (12, .int .i64 (Rg.ownErr l a)), (13, .slice a3 (Rg.add l s (ps.take ((min (ps.length : Int) 70).toNat))).length c4), (14, .int .i64 (Rg.addErr l s (ps.take ((min (ps.length : Int) 70).toNat)))), (15, .slice a8 (Rg.rem l s).length c9), (16, .int .i64 (Rg.remErr l s)), (17, .slice a13 (Rg.shares l n).length c14), (18, .int .i64 (Rg.shErr l n)), (19, .int .i64 (Rg.check l)), (20, .int .i64 w), (21, .int .i64 (Rg.addErr l s (ps.take ((min (ps.length : Int) 70).toNat)))), (22, .int .i64 (Rg.check l)), (23, .int .i64 (Rg.check l)), (24, .int .i64 owner), (25, .slice a23 (Rg.add l s (ps.take ((min (ps.length : Int) 70).toNat))).length c24), (26, .slice adrop_ drop_.length cdrop_), (27, .slice none 0 0), (28, .int .i64 (i : Int))] [own tPoint Sdrop_ adrop_ cdrop_ drop_, own tPoint S21 a23 c24 (Rg.add l s (ps.take ((min (ps.length : Int) 70).toNat))), own tInt S11 a13 c14 (Rg.shares l n), own tPoint S6 a8 c9 (Rg.rem l s), own tPoint S1 a3 c4 (Rg.add l s (ps.take ((min (ps.length : Int) 70).toNat))), base w0]
    refine c_seq ?_
    refine c_seq ?_
    refine c_region ?_
    refine o_pure (p_move (v := .int .i64 (i : Int)) rfl) rfl rfl rfl ?_
    refine o_pure (p_move (v := .slice al l.length cl) rfl) rfl rfl rfl ?_
    refine o_pure (p_len_slice (len := l.length) rfl rfl Try.underlying22) rfl rfl rfl ?_
    refine o_pure (p_lt (p := (i : Int)) (q := (l.length : Int)) rfl rfl) rfl rfl rfl ?_
    refine o_nil ?_
    refine q_then ?_
    refine c_cond (b := decide ((i : Int) < (l.length : Int))) rfl (fun hc28 => ?_) (fun hc28 => ?_)
    · simp only [decide_eq_true_eq] at hc28
      refine c_skip ?_
      refine q_then ?_
      refine c_seq ?_
      refine c_block ?_
      refine c_seq ?_
      refine c_region ?_
      refine o_pure (p_move (v := .slice al l.length cl) rfl) rfl rfl rfl ?_
      refine o_pure (p_move (v := .int .i64 (i : Int)) rfl) rfl rfl rfl ?_
      refine o_pure (p_indexAddr (L := l) (T := tPoint) (i := (i : Int)) rfl rfl (rd_base (i := 5) rfl hl) Try.underlying22 sz35 (by omega) (by omega)) rfl rfl rfl ?_
      refine o_pure (p_fieldAddrE rfl fo35_1) rfl rfl rfl ?_
      refine o_pure (p_loadF (i := i) (j := 1) (T := tPoint) (L := l) (v := .int .i64 ((l[i]).shard)) rfl (rd_base (i := 5) rfl hl) (by first | assumption | omega) sh3 rfl) rfl rfl rfl ?_
      refine o_pure (p_move (v := .int .i64 s) rfl) rfl rfl rfl ?_
      refine o_pure (p_ne (p := (l[i]).shard) (q := s) rfl rfl) rfl rfl rfl ?_
      refine o_nil ?_
      refine q_then ?_
      refine c_cond (b := ((l[i]).shard != s)) rfl (fun hc29 => ?_) (fun hc29 => ?_)
      · simp only [bne_iff_ne, ne_eq] at hc29
        refine c_region ?_
        refine o_pure (p_move (v := .slice adrop_ drop_.length cdrop_) rfl) rfl rfl rfl ?_
        refine o_pure (p_move (v := .slice al l.length cl) rfl) rfl rfl rfl ?_
        refine o_pure (p_move (v := .int .i64 (i : Int)) rfl) rfl rfl rfl ?_
        refine o_pure (p_indexAddr (L := l) (T := tPoint) (i := (i : Int)) rfl rfl (rd_base (i := 5) rfl hl) Try.underlying22 sz35 (by omega) (by omega)) rfl rfl rfl ?_
        refine o_pure (p_loadEn (i := i) (T := tPoint) (L := l) (vs := [.int .i64 ((l[i]).at_), .int .i64 ((l[i]).shard)]) rfl (rd_base (i := 5) rfl hl) (by first | assumption | omega) sh35 rfl) rfl rfl rfl ?_
        refine o_buildSlice (m := 1) (T := tPoint) (L := [(⟨(l[i]).at_, (l[i]).shard⟩ : DPoint)]) (vs := [.agg #[.int .i64 ((l[i]).at_), .int .i64 ((l[i]).shard)]]) rfl rfl rfl rfl Try.underlying22 sz35 (by decide) ze35 rfl (by decide) rfl (fun S30 a31 => ?_)
        refine o_append (i := 1) (L := drop_) (M := [(⟨(l[i]).at_, (l[i]).shard⟩ : DPoint)]) (T := tPoint) rfl rfl rfl (rd_own (i := 0) rfl) Try.underlying22 Try.underlying22 (by intro k h; cases h) el35 (by intro z; simp [tPoint, one1]) (by decide) (by first | omega | (simp only [List.length_cons, List.length_nil]; omega) | (simp only [List.length_append, List.length_cons, List.length_nil, List.length_take, List.length_drop]; omega)) rfl (fun a33 c34 S35 => ?_)
        refine o_pure (p_assign (v := .slice a33 (drop_ ++ [(⟨(l[i]).at_, (l[i]).shard⟩ : DPoint)]).length c34) rfl) rfl rfl rfl ?_
        refine o_nil ?_
        refine q_block_normal (q_then ?_)
        refine c_region ?_
        refine o_pure (p_move (v := .int .i64 (i : Int)) rfl) rfl rfl rfl ?_
        refine o_pure (p_addb (p := (i : Int)) (q := 1) rfl rfl (by omega)) rfl rfl rfl ?_
        refine o_pure (p_assign (v := .int .i64 ((i : Int) + 1)) rfl) rfl rfl rfl ?_
        refine o_nil ?_
        refine q_round hK27 ((drop_ ++ [(⟨(l[i]).at_, (l[i]).shard⟩ : DPoint)]), a33, c34, S35, i + 1) ?_ ?_ ?_ ?_
        · clear hK27
          first | exact hI.add (by omega) (by assumption) | exact hI.skip (by omega) (by assumption)
        · (try dsimp only); omega
        · exact Sub.cons rfl (Sub.cons rfl (Sub.cons rfl (Sub.cons rfl (Sub.cons rfl (Sub.cons rfl (Sub.cons rfl (Sub.cons rfl (Sub.cons rfl (Sub.cons rfl (Sub.cons rfl (Sub.cons rfl (Sub.cons rfl (Sub.cons rfl (Sub.cons rfl (Sub.cons rfl (Sub.cons rfl (Sub.cons rfl (Sub.cons rfl (Sub.cons rfl (Sub.cons rfl (Sub.nil _)))))))))))))))))))))
        · exact fun _ hw => HeapIs.pick hw [1, 2, 3, 4, 5, 6] (by decide) rfl
      · simp only [bne_eq_false_iff_eq] at hc29
        refine c_skip ?_
        refine q_block_normal (q_then ?_)
        refine c_region ?_
        refine o_pure (p_move (v := .int .i64 (i : Int)) rfl) rfl rfl rfl ?_
        refine o_pure (p_addb (p := (i : Int)) (q := 1) rfl rfl (by omega)) rfl rfl rfl ?_
        refine o_pure (p_assign (v := .int .i64 ((i : Int) + 1)) rfl) rfl rfl rfl ?_
        refine o_nil ?_
        refine q_round hK27 (drop_, adrop_, cdrop_, Sdrop_, i + 1) ?_ ?_ ?_ ?_
        · clear hK27
          first | exact hI.add (by omega) (by assumption) | exact hI.skip (by omega) (by assumption)
        · (try dsimp only); omega
        · exact Sub.cons rfl (Sub.cons rfl (Sub.cons rfl (Sub.cons rfl (Sub.cons rfl (Sub.cons rfl (Sub.cons rfl (Sub.cons rfl (Sub.cons rfl (Sub.cons rfl (Sub.cons rfl (Sub.cons rfl (Sub.cons rfl (Sub.cons rfl (Sub.cons rfl (Sub.cons rfl (Sub.cons rfl (Sub.cons rfl (Sub.cons rfl (Sub.cons rfl (Sub.cons rfl (Sub.nil _)))))))))))))))))))))
        · exact fun _ hw => HeapIs.pick hw [0, 1, 2, 3, 4, 5] (by decide) rfl
    · simp only [decide_eq_false_iff_not, Int.not_lt] at hc28
      have hdp := hI.done (by omega)
      refine c_exit ?_
      refine q_then_exit (q_then_exit (q_block_exit (q_then ?_)))
      refine c_seq ?_
      refine c_seq ?_
      refine c_region ?_
      refine o_pure (p_move (v := .slice adrop_ drop_.length cdrop_) rfl) rfl rfl rfl ?_
      refine o_pure (p_len_slice (len := drop_.length) rfl rfl Try.underlying22) rfl rfl rfl ?_
      refine o_pure (p_move (v := .slice al l.length cl) rfl) rfl rfl rfl ?_
      refine o_pure (p_len_slice (len := l.length) rfl rfl Try.underlying22) rfl rfl rfl ?_
      refine o_pure (p_eq (p := (drop_.length : Int)) (q := (l.length : Int)) rfl rfl) rfl rfl rfl ?_
      refine o_nil ?_
      refine q_then ?_
      refine c_heap (H' := [loose tPoint (False) Sdrop_ adrop_ cdrop_ drop_, own tPoint S21 a23 c24 (Rg.add l s (ps.take ((min (ps.length : Int) 70).toNat))), own tInt S11 a13 c14 (Rg.shares l n), own tPoint S6 a8 c9 (Rg.rem l s), own tPoint S1 a3 c4 (Rg.add l s (ps.take ((min (ps.length : Int) 70).toNat))), base w0]) (fun w hw => HeapIs.toLoose (i := 0) (T := tPoint) rfl hw) ?_
      refine c_join (G := Int × List DPoint × Option Addr × Nat × (Nat → Prop))
        (fun ⟨u, drop_, adrop_, cdrop_, Sdrop_⟩ => [(0, .slice al l.length cl), (3, .int .i64 n), (11, .int .i64 (Rg.owner l a)), (12, .int .i64 (Rg.ownErr l a)), (13, .slice a3 (Rg.add l s (ps.take ((min (ps.length : Int) 70).toNat))).length c4), (14, .int .i64 (Rg.addErr l s (ps.take ((min (ps.length : Int) 70).toNat)))), (15, .slice a8 (Rg.rem l s).length c9), (16, .int .i64 (Rg.remErr l s)), (17, .slice a13 (Rg.shares l n).length c14), (18, .int .i64 (Rg.shErr l n)), (19, .int .i64 (Rg.check l)), (20, .int .i64 w), (21, .int .i64 (Rg.addErr l s (ps.take ((min (ps.length : Int) 70).toNat)))), (22, .int .i64 u), (23, .int .i64 (Rg.check l)), (24, .int .i64 owner), (25, .slice a23 (Rg.add l s (ps.take ((min (ps.length : Int) 70).toNat))).length c24), (26, .slice adrop_ drop_.length cdrop_), (27, .slice none 0 0)])
        (fun ⟨u, drop_, adrop_, cdrop_, Sdrop_⟩ => [loose tPoint (False) Sdrop_ adrop_ cdrop_ drop_, own tPoint S21 a23 c24 (Rg.add l s (ps.take ((min (ps.length : Int) 70).toNat))), own tInt S11 a13 c14 (Rg.shares l n), own tPoint S6 a8 c9 (Rg.rem l s), own tPoint S1 a3 c4 (Rg.add l s (ps.take ((min (ps.length : Int) 70).toNat))), base w0])
        (fun ⟨u, drop_, adrop_, cdrop_, Sdrop_⟩ => drop_ = Rg.rem l s ∧ u = Rg.remErr l s)
        (fun K hK36 => ?_) ?_
      · refine c_cond (b := ((drop_.length : Int) == (l.length : Int))) rfl (fun hc37 => ?_) (fun hc37 => ?_)
        · simp only [beq_iff_eq] at hc37
          refine c_region ?_
          refine o_pure (p_assign (v := .slice none 0 0) rfl) rfl rfl rfl ?_
          refine o_pure (p_assign (v := .int .i64 5) rfl) rfl rfl rfl ?_
          refine o_nil ?_
          refine q_heap (H' := [loose tPoint (False) (fun _ => False) none 0 ([]), loose tPoint (False) Sdrop_ adrop_ cdrop_ drop_, own tPoint S21 a23 c24 (Rg.add l s (ps.take ((min (ps.length : Int) 70).toNat))), own tInt S11 a13 c14 (Rg.shares l n), own tPoint S6 a8 c9 (Rg.rem l s), own tPoint S1 a3 c4 (Rg.add l s (ps.take ((min (ps.length : Int) 70).toNat))), base w0]) (fun w hw => HeapIs.looseNil tPoint hw) ?_
          refine q_join hK36 (5, [], none, 0, (fun _ => False)) ?_ (Sub.cons rfl (Sub.cons rfl (Sub.cons rfl (Sub.cons rfl (Sub.cons rfl (Sub.cons rfl (Sub.cons rfl (Sub.cons rfl (Sub.cons rfl (Sub.cons rfl (Sub.cons rfl (Sub.cons rfl (Sub.cons rfl (Sub.cons rfl (Sub.cons rfl (Sub.cons rfl (Sub.cons rfl (Sub.cons rfl (Sub.cons rfl (Sub.nil _)))))))))))))))))))) (fun _ hw => HeapIs.pick hw [0, 2, 3, 4, 5, 6] (by decide) rfl)
          clear hK36
          first | exact Rg.ju1 hck hdp (by omega) | exact Rg.ju2 hck hdp (by omega)
        · simp only [beq_eq_false_iff_ne, ne_eq] at hc37
          refine c_skip ?_
          refine q_join hK36 ((Rg.check l), drop_, adrop_, cdrop_, Sdrop_) ?_ (Sub.cons rfl (Sub.cons rfl (Sub.cons rfl (Sub.cons rfl (Sub.cons rfl (Sub.cons rfl (Sub.cons rfl (Sub.cons rfl (Sub.cons rfl (Sub.cons rfl (Sub.cons rfl (Sub.cons rfl (Sub.cons rfl (Sub.cons rfl (Sub.cons rfl (Sub.cons rfl (Sub.cons rfl (Sub.cons rfl (Sub.cons rfl (Sub.nil _)))))))))))))))))))) (fun _ hw => HeapIs.pick hw [0, 1, 2, 3, 4, 5] (by decide) rfl)
          clear hK36
          first | exact Rg.ju1 hck hdp (by omega) | exact Rg.ju2 hck hdp (by omega)
      rintro ⟨u, drop_, adrop_, cdrop_, Sdrop_⟩ hj2
      show SQ _ 183 w0 _ _ [(0, .slice al l.length cl), (3, .int .i64 n), (11, .int .i64 (Rg.owner l a)), (12, .int .i64 (Rg.ownErr l a)), (13, .slice a3 (Rg.add l s (ps.take ((min (ps.length : Int) 70).toNat))).length c4), (14, .int .i64 (Rg.addErr l s (ps.take ((min (ps.length : Int) 70).toNat)))), (15, .slice a8 (Rg.rem l s).length c9), (16, .int .i64 (Rg.remErr l s)), (17, .slice a13 (Rg.shares l n).length c14), (18, .int .i64 (Rg.shErr l n)), (19, .int .i64 (Rg.check l)), (20, .int .i64 w), (21, .int .i64 (Rg.addErr l s (ps.take ((min (ps.length : Int) 70).toNat)))), (22, .int .i64 u), (23, .int .i64 (Rg.check l)), (24, .int .i64 owner), (25, .slice a23 (Rg.add l s (ps.take ((min (ps.length : Int) 70).toNat))).length c24), (26, .slice adrop_ drop_.length cdrop_), (27, .slice none 0 0)] [loose tPoint (False) Sdrop_ adrop_ cdrop_ drop_, own tPoint S21 a23 c24 (Rg.add l s (ps.take ((min (ps.length : Int) 70).toNat))), own tInt S11 a13 c14 (Rg.shares l n), own tPoint S6 a8 c9 (Rg.rem l s), own tPoint S1 a3 c4 (Rg.add l s (ps.take ((min (ps.length : Int) 70).toNat))), base w0]
      refine q_then ?_
      refine c_seq ?_
      refine c_seq ?_
      refine c_region ?_
      refine o_pure (p_move (v := .int .i64 n) rfl) rfl rfl rfl ?_
      refine o_pure (p_lt (p := n) (q := 1) rfl rfl) rfl rfl rfl ?_
      refine o_pure (p_move (v := .bool (decide (n < 1))) rfl) rfl rfl rfl ?_
      refine o_or (p := 117) 3 (decide (20 < n)) ?_ ?_ ?_
      · intro hb39 hk
        simp only [decide_eq_false_iff_not, Int.not_lt] at hb39
        refine o_unguard 114 rfl rfl ?_
        refine o_pure (p_move (v := .int .i64 n) rfl) rfl rfl rfl ?_
        refine o_unguard 114 rfl rfl ?_
        refine o_pure (p_gt (p := n) (q := 20) rfl rfl) rfl rfl rfl ?_
        refine o_pure (p_pick_false (v := .bool (decide (20 < n))) rfl rfl) rfl rfl rfl ?_
        exact o_sub (Sub.cons rfl (Sub.skip rfl (Sub.skip rfl (Sub.skip rfl (Sub.skip rfl (Sub.refl _)))))) hk
      · intro hb39 hk
        refine o_guard_no rfl 114 rfl rfl rfl rfl rfl ?_
        refine o_guard_no rfl 114 rfl rfl rfl rfl rfl ?_
        refine o_pure (p_pick_true (u := .bool true) rfl rfl) rfl rfl rfl ?_
        exact o_sub (Sub.cons rfl (Sub.skip rfl (Sub.skip rfl (Sub.skip rfl (Sub.skip rfl (Sub.refl _)))))) hk
      refine o_nil ?_
      refine q_then ?_
      refine c_join (G := Int)
        (fun o => [(0, .slice al l.length cl), (3, .int .i64 n), (11, .int .i64 (Rg.owner l a)), (12, .int .i64 (Rg.ownErr l a)), (13, .slice a3 (Rg.add l s (ps.take ((min (ps.length : Int) 70).toNat))).length c4), (14, .int .i64 (Rg.addErr l s (ps.take ((min (ps.length : Int) 70).toNat)))), (15, .slice a8 (Rg.rem l s).length c9), (16, .int .i64 (Rg.remErr l s)), (17, .slice a13 (Rg.shares l n).length c14), (18, .int .i64 (Rg.shErr l n)), (19, .int .i64 (Rg.check l)), (20, .int .i64 w), (21, .int .i64 (Rg.addErr l s (ps.take ((min (ps.length : Int) 70).toNat)))), (22, .int .i64 u), (23, .int .i64 o), (24, .int .i64 owner), (25, .slice a23 (Rg.add l s (ps.take ((min (ps.length : Int) 70).toNat))).length c24), (26, .slice adrop_ drop_.length cdrop_), (27, .slice none 0 0)])
        (fun o => [loose tPoint (False) Sdrop_ adrop_ cdrop_ drop_, own tPoint S21 a23 c24 (Rg.add l s (ps.take ((min (ps.length : Int) 70).toNat))), own tInt S11 a13 c14 (Rg.shares l n), own tPoint S6 a8 c9 (Rg.rem l s), own tPoint S1 a3 c4 (Rg.add l s (ps.take ((min (ps.length : Int) 70).toNat))), base w0])
        (fun o => o = Rg.shErr l n)
        (fun K hK40 => ?_) ?_
      · refine c_cond (b := (decide (n < 1) || decide (20 < n))) rfl (fun hc41 => ?_) (fun hc41 => ?_)
        · simp only [Bool.or_eq_true, decide_eq_true_eq] at hc41
          refine c_region ?_
          refine o_pure (p_assign (v := .int .i64 3) rfl) rfl rfl rfl ?_
          refine o_nil ?_
          refine q_join hK40 3 ?_ (Sub.cons rfl (Sub.cons rfl (Sub.cons rfl (Sub.cons rfl (Sub.cons rfl (Sub.cons rfl (Sub.cons rfl (Sub.cons rfl (Sub.cons rfl (Sub.cons rfl (Sub.cons rfl (Sub.cons rfl (Sub.cons rfl (Sub.cons rfl (Sub.cons rfl (Sub.cons rfl (Sub.cons rfl (Sub.cons rfl (Sub.cons rfl (Sub.nil _)))))))))))))))))))) (fun _ hw => HeapIs.pick hw [0, 1, 2, 3, 4, 5] (by decide) rfl)
          clear hK40
          first | exact Rg.jo1 hck (by omega) | exact Rg.jo2 hck (by omega) (by omega) | exact Rg.jo3 hck (by omega) (by omega)
        · simp only [Bool.or_eq_false_iff, decide_eq_false_iff_not, Int.not_lt] at hc41
          refine c_seq ?_
          refine c_region ?_
          refine o_pure (p_move (v := .slice al l.length cl) rfl) rfl rfl rfl ?_
          refine o_pure (p_len_slice (len := l.length) rfl rfl Try.underlying22) rfl rfl rfl ?_
          refine o_pure (p_eq (p := (l.length : Int)) (q := 0) rfl rfl) rfl rfl rfl ?_
          refine o_nil ?_
          refine q_then ?_
          refine c_cond (b := ((l.length : Int) == 0)) rfl (fun hc42 => ?_) (fun hc42 => ?_)
          · simp only [beq_iff_eq] at hc42
            refine c_region ?_
            refine o_pure (p_assign (v := .int .i64 5) rfl) rfl rfl rfl ?_
            refine o_nil ?_
            refine q_join hK40 5 ?_ (Sub.cons rfl (Sub.cons rfl (Sub.cons rfl (Sub.cons rfl (Sub.cons rfl (Sub.cons rfl (Sub.cons rfl (Sub.cons rfl (Sub.cons rfl (Sub.cons rfl (Sub.cons rfl (Sub.cons rfl (Sub.cons rfl (Sub.cons rfl (Sub.cons rfl (Sub.cons rfl (Sub.cons rfl (Sub.cons rfl (Sub.cons rfl (Sub.nil _)))))))))))))))))))) (fun _ hw => HeapIs.pick hw [0, 1, 2, 3, 4, 5] (by decide) rfl)
            clear hK40
            first | exact Rg.jo1 hck (by omega) | exact Rg.jo2 hck (by omega) (by omega) | exact Rg.jo3 hck (by omega) (by omega)
          · simp only [beq_eq_false_iff_ne, ne_eq] at hc42
            refine c_skip ?_
            refine q_join hK40 (Rg.check l) ?_ (Sub.cons rfl (Sub.cons rfl (Sub.cons rfl (Sub.cons rfl (Sub.cons rfl (Sub.cons rfl (Sub.cons rfl (Sub.cons rfl (Sub.cons rfl (Sub.cons rfl (Sub.cons rfl (Sub.cons rfl (Sub.cons rfl (Sub.cons rfl (Sub.cons rfl (Sub.cons rfl (Sub.cons rfl (Sub.cons rfl (Sub.cons rfl (Sub.nil _)))))))))))))))))))) (fun _ hw => HeapIs.pick hw [0, 1, 2, 3, 4, 5] (by decide) rfl)
            clear hK40
            first | exact Rg.jo1 hck (by omega) | exact Rg.jo2 hck (by omega) (by omega) | exact Rg.jo3 hck (by omega) (by omega)
      rintro o hj3
      show SQ _ 183 w0 _ _ [(0, .slice al l.length cl), (3, .int .i64 n), (11, .int .i64 (Rg.owner l a)), (12, .int .i64 (Rg.ownErr l a)), (13, .slice a3 (Rg.add l s (ps.take ((min (ps.length : Int) 70).toNat))).length c4), (14, .int .i64 (Rg.addErr l s (ps.take ((min (ps.length : Int) 70).toNat)))), (15, .slice a8 (Rg.rem l s).length c9), (16, .int .i64 (Rg.remErr l s)), (17, .slice a13 (Rg.shares l n).length c14), (18, .int .i64 (Rg.shErr l n)), (19, .int .i64 (Rg.check l)), (20, .int .i64 w), (21, .int .i64 (Rg.addErr l s (ps.take ((min (ps.length : Int) 70).toNat)))), (22, .int .i64 u), (23, .int .i64 o), (24, .int .i64 owner), (25, .slice a23 (Rg.add l s (ps.take ((min (ps.length : Int) 70).toNat))).length c24), (26, .slice adrop_ drop_.length cdrop_), (27, .slice none 0 0)] [loose tPoint (False) Sdrop_ adrop_ cdrop_ drop_, own tPoint S21 a23 c24 (Rg.add l s (ps.take ((min (ps.length : Int) 70).toNat))), own tInt S11 a13 c14 (Rg.shares l n), own tPoint S6 a8 c9 (Rg.rem l s), own tPoint S1 a3 c4 (Rg.add l s (ps.take ((min (ps.length : Int) 70).toNat))), base w0]
      refine q_then ?_
      refine c_seq ?_
      refine c_region ?_
      refine o_pure (p_assign (v := .int .i64 0) rfl) rfl rfl rfl ?_
      refine o_nil ?_
      refine q_then ?_
      refine c_block ?_
      refine c_ownNil tInt ?_
      refine c_loop (St := List Int × Option Addr × Nat × (Nat → Prop) × Nat)
        (fun ⟨sh, ash, csh, Ssh, i2⟩ => [(0, .slice al l.length cl), (3, .int .i64 n), (11, .int .i64 (Rg.owner l a)), (12, .int .i64 (Rg.ownErr l a)), (13, .slice a3 (Rg.add l s (ps.take ((min (ps.length : Int) 70).toNat))).length c4), (14, .int .i64 (Rg.addErr l s (ps.take ((min (ps.length : Int) 70).toNat)))), (15, .slice a8 (Rg.rem l s).length c9), (16, .int .i64 (Rg.remErr l s)), (17, .slice a13 (Rg.shares l n).length c14), (18, .int .i64 (Rg.shErr l n)), (19, .int .i64 (Rg.check l)), (20, .int .i64 w), (21, .int .i64 (Rg.addErr l s (ps.take ((min (ps.length : Int) 70).toNat)))), (22, .int .i64 u), (23, .int .i64 o), (24, .int .i64 owner), (25, .slice a23 (Rg.add l s (ps.take ((min (ps.length : Int) 70).toNat))).length c24), (26, .slice adrop_ drop_.length cdrop_), (27, .slice ash sh.length csh), (29, .int .i64 (i2 : Int))])
        (fun ⟨sh, ash, csh, Ssh, i2⟩ => [own tInt Ssh ash csh sh, loose tPoint (False) Sdrop_ adrop_ cdrop_ drop_, own tPoint S21 a23 c24 (Rg.add l s (ps.take ((min (ps.length : Int) 70).toNat))), own tInt S11 a13 c14 (Rg.shares l n), own tPoint S6 a8 c9 (Rg.rem l s), own tPoint S1 a3 c4 (Rg.add l s (ps.take ((min (ps.length : Int) 70).toNat))), base w0])
        (fun ⟨sh, ash, csh, Ssh, i2⟩ => Rg.VInv l n sh i2)
        (fun ⟨sh, ash, csh, Ssh, i2⟩ => (n - i2).toNat)
        ([], none, 0, (fun _ => False), 0) ?_ (Sub.cons rfl (Sub.cons rfl (Sub.cons rfl (Sub.cons rfl (Sub.cons rfl (Sub.cons rfl (Sub.cons rfl (Sub.cons rfl (Sub.cons rfl (Sub.cons rfl (Sub.cons rfl (Sub.cons rfl (Sub.cons rfl (Sub.cons rfl (Sub.cons rfl (Sub.cons rfl (Sub.cons rfl (Sub.cons rfl (Sub.cons rfl (Sub.cons rfl (Sub.nil _))))))))))))))))))))) (fun _ hw => hw) ?_
      · exact Rg.VInv.start _ _
      rintro ⟨sh, ash, csh, Ssh, i2⟩ hI K hK44
      have hvl := hI.len
      have hvi := hI.le
      show SC _ _ Try.prog 183 w0 _ _ [(0, .slice al l.length cl), (3, .int .i64 n), (11, .int .i64 (Rg.owner l a)), (12, .int .i64 (Rg.ownErr l a)), (13, .slice a3 (Rg.add l s (ps.take ((min (ps.length : Int) 70).toNat))).length c4), (14, .int .i64 (Rg.addErr l s (ps.take ((min (ps.length : Int) 70).toNat)))), (15, .slice a8 (Rg.rem l s).length c9), (16, .int .i64 (Rg.remErr l s)), (17, .slice a13 (Rg.shares l n).length c14), (18, .int .i64 (Rg.shErr l n)), (19, .int .i64 (Rg.check l)), (20, .int .i64 w), (21, .int .i64 (Rg.addErr l s (ps.take ((min (ps.length : Int) 70).toNat)))), (22, .int .i64 u), (23, .int .i64 o), (24, .int .i64 owner), (25, .slice a23 (Rg.add l s (ps.take ((min (ps.length : Int) 70).toNat))).length c24), (26, .slice adrop_ drop_.length cdrop_), (27, .slice ash sh.length csh), (29, .int .i64 (i2 : Int))] [own tInt Ssh ash csh sh, loose tPoint (False) Sdrop_ adrop_ cdrop_ drop_, own tPoint S21 a23 c24 (Rg.add l s (ps.take ((min (ps.length : Int) 70).toNat))), own tInt S11 a13 c14 (Rg.shares l n), own tPoint S6 a8 c9 (Rg.rem l s), own tPoint S1 a3 c4 (Rg.add l s (ps.take ((min (ps.length : Int) 70).toNat))), base w0]
      refine c_seq ?_
      refine c_seq ?_
      refine c_region ?_
      refine o_pure (p_move (v := .int .i64 (i2 : Int)) rfl) rfl rfl rfl ?_
      refine o_pure (p_move (v := .int .i64 n) rfl) rfl rfl rfl ?_
      refine o_pure (p_lt (p := (i2 : Int)) (q := n) rfl rfl) rfl rfl rfl ?_
      refine o_pure (p_move (v := .bool (decide ((i2 : Int) < n))) rfl) rfl rfl rfl ?_
      refine o_and (p := 127) 3 (o == 0) ?_ ?_ ?_
      · intro hb45 hk
        simp only [decide_eq_true_eq] at hb45
        refine o_unguard 124 rfl rfl ?_
        refine o_pure (p_move (v := .int .i64 o) rfl) rfl rfl rfl ?_
        refine o_unguard 124 rfl rfl ?_
        refine o_pure (p_eq (p := o) (q := 0) rfl rfl) rfl rfl rfl ?_
        refine o_pure (p_pick_true (u := .bool (o == 0)) rfl rfl) rfl rfl rfl ?_
        exact o_sub (Sub.cons rfl (Sub.skip rfl (Sub.skip rfl (Sub.skip rfl (Sub.skip rfl (Sub.refl _)))))) hk
      · intro hb45 hk
        refine o_guard_no rfl 124 rfl rfl rfl rfl rfl ?_
        refine o_guard_no rfl 124 rfl rfl rfl rfl rfl ?_
        refine o_pure (p_pick_false (v := .bool false) rfl rfl) rfl rfl rfl ?_
        exact o_sub (Sub.cons rfl (Sub.skip rfl (Sub.skip rfl (Sub.skip rfl (Sub.skip rfl (Sub.refl _)))))) hk
      refine o_nil ?_
      refine q_then ?_
      refine c_cond (b := (decide ((i2 : Int) < n) && (o == 0))) rfl (fun hc46 => ?_) (fun hc46 => ?_)
      · simp only [Bool.and_eq_true, decide_eq_true_eq, beq_iff_eq] at hc46
        refine c_skip ?_
        refine q_then ?_
        refine c_seq ?_
        refine c_block ?_
        refine c_region ?_
        refine o_pure (p_move (v := .slice ash sh.length csh) rfl) rfl rfl rfl ?_
        refine o_pure (p_move (v := .slice al l.length cl) rfl) rfl rfl rfl ?_
        refine o_pure (p_move (v := .int .i64 (i2 : Int)) rfl) rfl rfl rfl ?_
        refine o_call0 (v := .int .i64 (Rg.share l (i2 : Int))) rfl (rfshare_ok l al cl (i2 : Int) (by first | assumption | exact hok)) hf22 (fun w hw => (rd_base (i := 6) rfl hl) w hw) rfl ?_
        refine o_buildSlice (m := 1) (T := tInt) (L := [(Rg.share l (i2 : Int))]) (vs := [.int .i64 (Rg.share l (i2 : Int))]) rfl rfl rfl rfl Try.underlying23 sz3 (by decide) ze3 rfl (by decide) rfl (fun S47 a48 => ?_)
        refine o_append (i := 1) (L := sh) (M := [(Rg.share l (i2 : Int))]) (T := tInt) rfl rfl rfl (rd_own (i := 0) rfl) Try.underlying23 Try.underlying23 (by intro k h; cases h) el3 (by intro z; simp [tInt, one1]) (by decide) (by first | omega | (simp only [List.length_cons, List.length_nil]; omega) | (simp only [List.length_append, List.length_cons, List.length_nil, List.length_take, List.length_drop]; omega)) rfl (fun a50 c51 S52 => ?_)
        refine o_pure (p_assign (v := .slice a50 (sh ++ [(Rg.share l (i2 : Int))]).length c51) rfl) rfl rfl rfl ?_
        refine o_nil ?_
        refine q_block_normal (q_then ?_)
        refine c_region ?_
        refine o_pure (p_move (v := .int .i64 (i2 : Int)) rfl) rfl rfl rfl ?_
        refine o_pure (p_addb (p := (i2 : Int)) (q := 1) rfl rfl (by omega)) rfl rfl rfl ?_
        refine o_pure (p_assign (v := .int .i64 ((i2 : Int) + 1)) rfl) rfl rfl rfl ?_
        refine o_nil ?_
        refine q_round hK44 ((sh ++ [(Rg.share l (i2 : Int))]), a50, c51, S52, i2 + 1) ?_ ?_ ?_ ?_
        · clear hK44
          exact hI.next (by simp_all)
        · (try dsimp only); omega
        · exact Sub.cons rfl (Sub.cons rfl (Sub.cons rfl (Sub.cons rfl (Sub.cons rfl (Sub.cons rfl (Sub.cons rfl (Sub.cons rfl (Sub.cons rfl (Sub.cons rfl (Sub.cons rfl (Sub.cons rfl (Sub.cons rfl (Sub.cons rfl (Sub.cons rfl (Sub.cons rfl (Sub.cons rfl (Sub.cons rfl (Sub.cons rfl (Sub.cons rfl (Sub.nil _))))))))))))))))))))
        · exact fun _ hw => HeapIs.pick hw [1, 2, 3, 4, 5, 6, 7] (by decide) rfl
      · simp only [Bool.and_eq_false_iff, decide_eq_false_iff_not, Int.not_lt, beq_eq_false_iff_ne, ne_eq] at hc46
        refine c_exit ?_
        refine q_then_exit (q_then_exit (q_block_exit (q_then ?_)))
        refine c_seq ?_
        refine c_region ?_
        refine o_call0 (v := .bool true) rfl (ringBegun_ok ) hf23 (fun _ _ => trivial) rfl ?_
        refine o_pure (p_move (v := .bool true) rfl) rfl rfl rfl ?_
        refine o_unguard 137 rfl rfl ?_
        refine o_pure (p_move (v := .slice al l.length cl) rfl) rfl rfl rfl ?_
        refine o_unguard 137 rfl rfl ?_
        refine o_call0 (v := .int .i64 (Rg.check l)) rfl (rcheck_ok l al cl) hf24 (fun w hw => (rd_base (i := 6) rfl hl) w hw) rfl ?_
        refine o_unguard 137 rfl rfl ?_
        refine o_pure (p_move (v := .int .i64 (Rg.check l)) rfl) rfl rfl rfl ?_
        refine o_unguard 137 rfl rfl ?_
        refine o_pure (p_eq (p := (Rg.check l)) (q := (Rg.check l)) rfl rfl) rfl rfl rfl ?_
        refine o_pure (p_pick_true (u := .bool ((Rg.check l) == (Rg.check l))) rfl rfl) rfl rfl rfl ?_
        refine o_pure (p_move (v := .bool ((Rg.check l) == (Rg.check l))) rfl) rfl rfl rfl ?_
        refine o_and (p := 147) 4 ((Rg.owner l a) == owner) ?_ ?_ ?_
        · intro hb53 hk
          simp only [beq_iff_eq] at hb53
          refine o_unguard 143 rfl rfl ?_
          refine o_pure (p_move (v := .int .i64 (Rg.owner l a)) rfl) rfl rfl rfl ?_
          refine o_unguard 143 rfl rfl ?_
          refine o_pure (p_move (v := .int .i64 owner) rfl) rfl rfl rfl ?_
          refine o_unguard 143 rfl rfl ?_
          refine o_pure (p_eq (p := (Rg.owner l a)) (q := owner) rfl rfl) rfl rfl rfl ?_
          refine o_pure (p_pick_true (u := .bool ((Rg.owner l a) == owner)) rfl rfl) rfl rfl rfl ?_
          exact o_sub (Sub.cons rfl (Sub.skip rfl (Sub.skip rfl (Sub.skip rfl (Sub.skip rfl (Sub.skip rfl (Sub.refl _))))))) hk
        · intro hb53 hk
          refine o_guard_no rfl 143 rfl rfl rfl rfl rfl ?_
          refine o_guard_no rfl 143 rfl rfl rfl rfl rfl ?_
          refine o_guard_no rfl 143 rfl rfl rfl rfl rfl ?_
          refine o_pure (p_pick_false (v := .bool false) rfl rfl) rfl rfl rfl ?_
          exact o_sub (Sub.cons rfl (Sub.skip rfl (Sub.skip rfl (Sub.skip rfl (Sub.skip rfl (Sub.skip rfl (Sub.refl _))))))) hk
        refine o_pure (p_move (v := .bool (((Rg.check l) == (Rg.check l)) && ((Rg.owner l a) == owner))) rfl) rfl rfl rfl ?_
        refine o_and (p := 152) 4 ((Rg.ownErr l a) == w) ?_ ?_ ?_
        · intro hb54 hk
          simp only [Bool.and_eq_true, beq_iff_eq] at hb54
          refine o_unguard 148 rfl rfl ?_
          refine o_pure (p_move (v := .int .i64 (Rg.ownErr l a)) rfl) rfl rfl rfl ?_
          refine o_unguard 148 rfl rfl ?_
          refine o_pure (p_move (v := .int .i64 w) rfl) rfl rfl rfl ?_
          refine o_unguard 148 rfl rfl ?_
          refine o_pure (p_eq (p := (Rg.ownErr l a)) (q := w) rfl rfl) rfl rfl rfl ?_
          refine o_pure (p_pick_true (u := .bool ((Rg.ownErr l a) == w)) rfl rfl) rfl rfl rfl ?_
          exact o_sub (Sub.cons rfl (Sub.skip rfl (Sub.skip rfl (Sub.skip rfl (Sub.skip rfl (Sub.skip rfl (Sub.refl _))))))) hk
        · intro hb54 hk
          refine o_guard_no rfl 148 rfl rfl rfl rfl rfl ?_
          refine o_guard_no rfl 148 rfl rfl rfl rfl rfl ?_
          refine o_guard_no rfl 148 rfl rfl rfl rfl rfl ?_
          refine o_pure (p_pick_false (v := .bool false) rfl rfl) rfl rfl rfl ?_
          exact o_sub (Sub.cons rfl (Sub.skip rfl (Sub.skip rfl (Sub.skip rfl (Sub.skip rfl (Sub.skip rfl (Sub.refl _))))))) hk
        refine o_pure (p_move (v := .bool ((((Rg.check l) == (Rg.check l)) && ((Rg.owner l a) == owner)) && ((Rg.ownErr l a) == w))) rfl) rfl rfl rfl ?_
        refine o_and (p := 157) 4 (decide ((Rg.add l s (ps.take ((min (ps.length : Int) 70).toNat))) = (Rg.add l s (ps.take ((min (ps.length : Int) 70).toNat))))) ?_ ?_ ?_
        · intro hb55 hk
          simp only [Bool.and_eq_true, beq_iff_eq] at hb55
          refine o_unguard 153 rfl rfl ?_
          refine o_pure (p_move (v := .slice a3 (Rg.add l s (ps.take ((min (ps.length : Int) 70).toNat))).length c4) rfl) rfl rfl rfl ?_
          refine o_unguard 153 rfl rfl ?_
          refine o_pure (p_move (v := .slice a23 (Rg.add l s (ps.take ((min (ps.length : Int) 70).toNat))).length c24) rfl) rfl rfl rfl ?_
          refine o_unguard 153 rfl rfl ?_
          refine o_call0 (v := .bool (decide ((Rg.add l s (ps.take ((min (ps.length : Int) 70).toNat))) = (Rg.add l s (ps.take ((min (ps.length : Int) 70).toNat)))))) rfl (samePoints_ok (Rg.add l s (ps.take ((min (ps.length : Int) 70).toNat))) a3 c4 (Rg.add l s (ps.take ((min (ps.length : Int) 70).toNat))) a23 c24) hf25 (fun w hw => ⟨(rd_own (i := 5) rfl) w hw, (rd_own (i := 2) rfl) w hw⟩) rfl ?_
          refine o_pure (p_pick_true (u := .bool (decide ((Rg.add l s (ps.take ((min (ps.length : Int) 70).toNat))) = (Rg.add l s (ps.take ((min (ps.length : Int) 70).toNat)))))) rfl rfl) rfl rfl rfl ?_
          exact o_sub (Sub.cons rfl (Sub.skip rfl (Sub.skip rfl (Sub.skip rfl (Sub.skip rfl (Sub.skip rfl (Sub.refl _))))))) hk
        · intro hb55 hk
          refine o_guard_no rfl 153 rfl rfl rfl rfl rfl ?_
          refine o_guard_no rfl 153 rfl rfl rfl rfl rfl ?_
          refine o_guard_no rfl 153 rfl rfl rfl rfl rfl ?_
          refine o_pure (p_pick_false (v := .bool false) rfl rfl) rfl rfl rfl ?_
          exact o_sub (Sub.cons rfl (Sub.skip rfl (Sub.skip rfl (Sub.skip rfl (Sub.skip rfl (Sub.skip rfl (Sub.refl _))))))) hk
        refine o_pure (p_move (v := .bool (((((Rg.check l) == (Rg.check l)) && ((Rg.owner l a) == owner)) && ((Rg.ownErr l a) == w)) && (decide ((Rg.add l s (ps.take ((min (ps.length : Int) 70).toNat))) = (Rg.add l s (ps.take ((min (ps.length : Int) 70).toNat))))))) rfl) rfl rfl rfl ?_
        refine o_and (p := 162) 4 ((Rg.addErr l s (ps.take ((min (ps.length : Int) 70).toNat))) == (Rg.addErr l s (ps.take ((min (ps.length : Int) 70).toNat)))) ?_ ?_ ?_
        · intro hb56 hk
          simp only [Bool.and_eq_true, beq_iff_eq, decide_eq_true_eq] at hb56
          refine o_unguard 158 rfl rfl ?_
          refine o_pure (p_move (v := .int .i64 (Rg.addErr l s (ps.take ((min (ps.length : Int) 70).toNat)))) rfl) rfl rfl rfl ?_
          refine o_unguard 158 rfl rfl ?_
          refine o_pure (p_move (v := .int .i64 (Rg.addErr l s (ps.take ((min (ps.length : Int) 70).toNat)))) rfl) rfl rfl rfl ?_
          refine o_unguard 158 rfl rfl ?_
          refine o_pure (p_eq (p := (Rg.addErr l s (ps.take ((min (ps.length : Int) 70).toNat)))) (q := (Rg.addErr l s (ps.take ((min (ps.length : Int) 70).toNat)))) rfl rfl) rfl rfl rfl ?_
          refine o_pure (p_pick_true (u := .bool ((Rg.addErr l s (ps.take ((min (ps.length : Int) 70).toNat))) == (Rg.addErr l s (ps.take ((min (ps.length : Int) 70).toNat))))) rfl rfl) rfl rfl rfl ?_
          exact o_sub (Sub.cons rfl (Sub.skip rfl (Sub.skip rfl (Sub.skip rfl (Sub.skip rfl (Sub.skip rfl (Sub.refl _))))))) hk
        · intro hb56 hk
          refine o_guard_no rfl 158 rfl rfl rfl rfl rfl ?_
          refine o_guard_no rfl 158 rfl rfl rfl rfl rfl ?_
          refine o_guard_no rfl 158 rfl rfl rfl rfl rfl ?_
          refine o_pure (p_pick_false (v := .bool false) rfl rfl) rfl rfl rfl ?_
          exact o_sub (Sub.cons rfl (Sub.skip rfl (Sub.skip rfl (Sub.skip rfl (Sub.skip rfl (Sub.skip rfl (Sub.refl _))))))) hk
        refine o_pure (p_move (v := .bool ((((((Rg.check l) == (Rg.check l)) && ((Rg.owner l a) == owner)) && ((Rg.ownErr l a) == w)) && (decide ((Rg.add l s (ps.take ((min (ps.length : Int) 70).toNat))) = (Rg.add l s (ps.take ((min (ps.length : Int) 70).toNat)))))) && ((Rg.addErr l s (ps.take ((min (ps.length : Int) 70).toNat))) == (Rg.addErr l s (ps.take ((min (ps.length : Int) 70).toNat)))))) rfl) rfl rfl rfl ?_
        refine o_and (p := 167) 4 (decide ((Rg.rem l s) = drop_)) ?_ ?_ ?_
        · intro hb57 hk
          simp only [Bool.and_eq_true, beq_iff_eq, decide_eq_true_eq] at hb57
          refine o_unguard 163 rfl rfl ?_
          refine o_pure (p_move (v := .slice a8 (Rg.rem l s).length c9) rfl) rfl rfl rfl ?_
          refine o_unguard 163 rfl rfl ?_
          refine o_pure (p_move (v := .slice adrop_ drop_.length cdrop_) rfl) rfl rfl rfl ?_
          refine o_unguard 163 rfl rfl ?_
          refine o_call0 (v := .bool (decide ((Rg.rem l s) = drop_))) rfl (samePoints_ok (Rg.rem l s) a8 c9 drop_ adrop_ cdrop_) hf25 (fun w hw => ⟨(rd_own (i := 4) rfl) w hw, (rd_loose (i := 1) rfl (fun hφ => hφ.elim)) w hw⟩) rfl ?_
          refine o_pure (p_pick_true (u := .bool (decide ((Rg.rem l s) = drop_))) rfl rfl) rfl rfl rfl ?_
          exact o_sub (Sub.cons rfl (Sub.skip rfl (Sub.skip rfl (Sub.skip rfl (Sub.skip rfl (Sub.skip rfl (Sub.refl _))))))) hk
        · intro hb57 hk
          refine o_guard_no rfl 163 rfl rfl rfl rfl rfl ?_
          refine o_guard_no rfl 163 rfl rfl rfl rfl rfl ?_
          refine o_guard_no rfl 163 rfl rfl rfl rfl rfl ?_
          refine o_pure (p_pick_false (v := .bool false) rfl rfl) rfl rfl rfl ?_
          exact o_sub (Sub.cons rfl (Sub.skip rfl (Sub.skip rfl (Sub.skip rfl (Sub.skip rfl (Sub.skip rfl (Sub.refl _))))))) hk
        refine o_pure (p_move (v := .bool (((((((Rg.check l) == (Rg.check l)) && ((Rg.owner l a) == owner)) && ((Rg.ownErr l a) == w)) && (decide ((Rg.add l s (ps.take ((min (ps.length : Int) 70).toNat))) = (Rg.add l s (ps.take ((min (ps.length : Int) 70).toNat)))))) && ((Rg.addErr l s (ps.take ((min (ps.length : Int) 70).toNat))) == (Rg.addErr l s (ps.take ((min (ps.length : Int) 70).toNat))))) && (decide ((Rg.rem l s) = drop_)))) rfl) rfl rfl rfl ?_
        refine o_and (p := 172) 4 ((Rg.remErr l s) == u) ?_ ?_ ?_
        · intro hb58 hk
          simp only [Bool.and_eq_true, beq_iff_eq, decide_eq_true_eq] at hb58
          refine o_unguard 168 rfl rfl ?_
          refine o_pure (p_move (v := .int .i64 (Rg.remErr l s)) rfl) rfl rfl rfl ?_
          refine o_unguard 168 rfl rfl ?_
          refine o_pure (p_move (v := .int .i64 u) rfl) rfl rfl rfl ?_
          refine o_unguard 168 rfl rfl ?_
          refine o_pure (p_eq (p := (Rg.remErr l s)) (q := u) rfl rfl) rfl rfl rfl ?_
          refine o_pure (p_pick_true (u := .bool ((Rg.remErr l s) == u)) rfl rfl) rfl rfl rfl ?_
          exact o_sub (Sub.cons rfl (Sub.skip rfl (Sub.skip rfl (Sub.skip rfl (Sub.skip rfl (Sub.skip rfl (Sub.refl _))))))) hk
        · intro hb58 hk
          refine o_guard_no rfl 168 rfl rfl rfl rfl rfl ?_
          refine o_guard_no rfl 168 rfl rfl rfl rfl rfl ?_
          refine o_guard_no rfl 168 rfl rfl rfl rfl rfl ?_
          refine o_pure (p_pick_false (v := .bool false) rfl rfl) rfl rfl rfl ?_
          exact o_sub (Sub.cons rfl (Sub.skip rfl (Sub.skip rfl (Sub.skip rfl (Sub.skip rfl (Sub.skip rfl (Sub.refl _))))))) hk
        refine o_pure (p_move (v := .bool ((((((((Rg.check l) == (Rg.check l)) && ((Rg.owner l a) == owner)) && ((Rg.ownErr l a) == w)) && (decide ((Rg.add l s (ps.take ((min (ps.length : Int) 70).toNat))) = (Rg.add l s (ps.take ((min (ps.length : Int) 70).toNat)))))) && ((Rg.addErr l s (ps.take ((min (ps.length : Int) 70).toNat))) == (Rg.addErr l s (ps.take ((min (ps.length : Int) 70).toNat))))) && (decide ((Rg.rem l s) = drop_))) && ((Rg.remErr l s) == u))) rfl) rfl rfl rfl ?_
        refine o_and (p := 177) 4 (Ref.sameInts (Rg.shares l n) sh) ?_ ?_ ?_
        · intro hb59 hk
          simp only [Bool.and_eq_true, beq_iff_eq, decide_eq_true_eq] at hb59
          refine o_unguard 173 rfl rfl ?_
          refine o_pure (p_move (v := .slice a13 (Rg.shares l n).length c14) rfl) rfl rfl rfl ?_
          refine o_unguard 173 rfl rfl ?_
          refine o_pure (p_move (v := .slice ash sh.length csh) rfl) rfl rfl rfl ?_
          refine o_unguard 173 rfl rfl ?_
          refine o_call0 (v := .bool (Ref.sameInts (Rg.shares l n) sh)) rfl (sameInts_ok (Rg.shares l n) a13 c14 sh ash csh) hf26 (fun w hw => ⟨(rd_own (i := 3) rfl) w hw, (rd_own (i := 0) rfl) w hw⟩) rfl ?_
          refine o_pure (p_pick_true (u := .bool (Ref.sameInts (Rg.shares l n) sh)) rfl rfl) rfl rfl rfl ?_
          exact o_sub (Sub.cons rfl (Sub.skip rfl (Sub.skip rfl (Sub.skip rfl (Sub.skip rfl (Sub.skip rfl (Sub.refl _))))))) hk
        · intro hb59 hk
          refine o_guard_no rfl 173 rfl rfl rfl rfl rfl ?_
          refine o_guard_no rfl 173 rfl rfl rfl rfl rfl ?_
          refine o_guard_no rfl 173 rfl rfl rfl rfl rfl ?_
          refine o_pure (p_pick_false (v := .bool false) rfl rfl) rfl rfl rfl ?_
          exact o_sub (Sub.cons rfl (Sub.skip rfl (Sub.skip rfl (Sub.skip rfl (Sub.skip rfl (Sub.skip rfl (Sub.refl _))))))) hk
        refine o_pure (p_move (v := .bool (((((((((Rg.check l) == (Rg.check l)) && ((Rg.owner l a) == owner)) && ((Rg.ownErr l a) == w)) && (decide ((Rg.add l s (ps.take ((min (ps.length : Int) 70).toNat))) = (Rg.add l s (ps.take ((min (ps.length : Int) 70).toNat)))))) && ((Rg.addErr l s (ps.take ((min (ps.length : Int) 70).toNat))) == (Rg.addErr l s (ps.take ((min (ps.length : Int) 70).toNat))))) && (decide ((Rg.rem l s) = drop_))) && ((Rg.remErr l s) == u)) && (Ref.sameInts (Rg.shares l n) sh))) rfl) rfl rfl rfl ?_
        refine o_and (p := 182) 4 ((Rg.shErr l n) == o) ?_ ?_ ?_
        · intro hb60 hk
          simp only [Bool.and_eq_true, beq_iff_eq, decide_eq_true_eq] at hb60
          refine o_unguard 178 rfl rfl ?_
          refine o_pure (p_move (v := .int .i64 (Rg.shErr l n)) rfl) rfl rfl rfl ?_
          refine o_unguard 178 rfl rfl ?_
          refine o_pure (p_move (v := .int .i64 o) rfl) rfl rfl rfl ?_
          refine o_unguard 178 rfl rfl ?_
          refine o_pure (p_eq (p := (Rg.shErr l n)) (q := o) rfl rfl) rfl rfl rfl ?_
          refine o_pure (p_pick_true (u := .bool ((Rg.shErr l n) == o)) rfl rfl) rfl rfl rfl ?_
          exact o_sub (Sub.cons rfl (Sub.skip rfl (Sub.skip rfl (Sub.skip rfl (Sub.skip rfl (Sub.skip rfl (Sub.refl _))))))) hk
        · intro hb60 hk
          refine o_guard_no rfl 178 rfl rfl rfl rfl rfl ?_
          refine o_guard_no rfl 178 rfl rfl rfl rfl rfl ?_
          refine o_guard_no rfl 178 rfl rfl rfl rfl rfl ?_
          refine o_pure (p_pick_false (v := .bool false) rfl rfl) rfl rfl rfl ?_
          exact o_sub (Sub.cons rfl (Sub.skip rfl (Sub.skip rfl (Sub.skip rfl (Sub.skip rfl (Sub.skip rfl (Sub.refl _))))))) hk
        refine o_pure (p_assign (v := .bool ((((((((((Rg.check l) == (Rg.check l)) && ((Rg.owner l a) == owner)) && ((Rg.ownErr l a) == w)) && (decide ((Rg.add l s (ps.take ((min (ps.length : Int) 70).toNat))) = (Rg.add l s (ps.take ((min (ps.length : Int) 70).toNat)))))) && ((Rg.addErr l s (ps.take ((min (ps.length : Int) 70).toNat))) == (Rg.addErr l s (ps.take ((min (ps.length : Int) 70).toNat))))) && (decide ((Rg.rem l s) = drop_))) && ((Rg.remErr l s) == u)) && (Ref.sameInts (Rg.shares l n) sh)) && ((Rg.shErr l n) == o))) rfl) rfl rfl rfl ?_
        refine o_nil ?_
        refine q_then ?_
        refine c_ret ?_
        have hr0 : (((((((((((Rg.check l) == (Rg.check l)) && ((Rg.owner l a) == owner)) && ((Rg.ownErr l a) == w)) && (decide ((Rg.add l s (ps.take ((min (ps.length : Int) 70).toNat))) = (Rg.add l s (ps.take ((min (ps.length : Int) 70).toNat)))))) && ((Rg.addErr l s (ps.take ((min (ps.length : Int) 70).toNat))) == (Rg.addErr l s (ps.take ((min (ps.length : Int) 70).toNat))))) && (decide ((Rg.rem l s) = drop_))) && ((Rg.remErr l s) == u)) && (Ref.sameInts (Rg.shares l n) sh)) && ((Rg.shErr l n) == o)) : Bool) = true := by
          first | (have h9 : Rg.check l ≠ 0 := (by assumption); obtain ⟨q1, q2⟩ := Rg.ow1 (a := a) h9; obtain ⟨q3, q4⟩ := Rg.ad1 (s := s) (ps := (ps.take (min (ps.length : Int) 70).toNat)) h9; obtain ⟨q5, q6⟩ := Rg.re1 (s := s) h9; obtain ⟨q7, q8⟩ := Rg.sh1 (n := n) h9; simp [q1, q2, q3, q4, q5, q6, q7, q8, Ref.sameInts]; done) | (have q9 := hI.done (by simp_all); simp [← hj1.1, ← hj1.2, ← hj2.1, ← hj2.2, ← q9, hj3, Ref.sameInts]; done)
        refine q_end0 (v := .bool ((((((((((Rg.check l) == (Rg.check l)) && ((Rg.owner l a) == owner)) && ((Rg.ownErr l a) == w)) && (decide ((Rg.add l s (ps.take ((min (ps.length : Int) 70).toNat))) = (Rg.add l s (ps.take ((min (ps.length : Int) 70).toNat)))))) && ((Rg.addErr l s (ps.take ((min (ps.length : Int) 70).toNat))) == (Rg.addErr l s (ps.take ((min (ps.length : Int) 70).toNat))))) && (decide ((Rg.rem l s) = drop_))) && ((Rg.remErr l s) == u)) && (Ref.sameInts (Rg.shares l n) sh)) && ((Rg.shErr l n) == o))) (rt1 rfl (r_tmp rfl)) (i := 6) rfl ?_
        exact (by have hcc := congrArg (fun (y0 : Bool) => (.bool y0 : Value)) hr0; exact hcc)
  · simp only [beq_eq_false_iff_ne, ne_eq] at hc16
    refine c_skip ?_
    refine q_then ?_
    refine c_seq ?_
    refine c_region ?_
    refine o_call0 (v := .bool true) rfl (ringBegun_ok ) hf23 (fun _ _ => trivial) rfl ?_
    refine o_pure (p_move (v := .bool true) rfl) rfl rfl rfl ?_
    refine o_unguard 137 rfl rfl ?_
    refine o_pure (p_move (v := .slice al l.length cl) rfl) rfl rfl rfl ?_
    refine o_unguard 137 rfl rfl ?_
    refine o_call0 (v := .int .i64 (Rg.check l)) rfl (rcheck_ok l al cl) hf24 (fun w hw => (rd_base (i := 3) rfl hl) w hw) rfl ?_
    refine o_unguard 137 rfl rfl ?_
    refine o_pure (p_move (v := .int .i64 (Rg.check l)) rfl) rfl rfl rfl ?_
    refine o_unguard 137 rfl rfl ?_
    refine o_pure (p_eq (p := (Rg.check l)) (q := (Rg.check l)) rfl rfl) rfl rfl rfl ?_
    refine o_pure (p_pick_true (u := .bool ((Rg.check l) == (Rg.check l))) rfl rfl) rfl rfl rfl ?_
    refine o_pure (p_move (v := .bool ((Rg.check l) == (Rg.check l))) rfl) rfl rfl rfl ?_
    refine o_and (p := 147) 4 ((Rg.owner l a) == 0) ?_ ?_ ?_
    · intro hb61 hk
      simp only [beq_iff_eq] at hb61
      refine o_unguard 143 rfl rfl ?_
      refine o_pure (p_move (v := .int .i64 (Rg.owner l a)) rfl) rfl rfl rfl ?_
      refine o_unguard 143 rfl rfl ?_
      refine o_pure (p_move (v := .int .i64 0) rfl) rfl rfl rfl ?_
      refine o_unguard 143 rfl rfl ?_
      refine o_pure (p_eq (p := (Rg.owner l a)) (q := 0) rfl rfl) rfl rfl rfl ?_
      refine o_pure (p_pick_true (u := .bool ((Rg.owner l a) == 0)) rfl rfl) rfl rfl rfl ?_
      exact o_sub (Sub.cons rfl (Sub.skip rfl (Sub.skip rfl (Sub.skip rfl (Sub.skip rfl (Sub.skip rfl (Sub.refl _))))))) hk
    · intro hb61 hk
      refine o_guard_no rfl 143 rfl rfl rfl rfl rfl ?_
      refine o_guard_no rfl 143 rfl rfl rfl rfl rfl ?_
      refine o_guard_no rfl 143 rfl rfl rfl rfl rfl ?_
      refine o_pure (p_pick_false (v := .bool false) rfl rfl) rfl rfl rfl ?_
      exact o_sub (Sub.cons rfl (Sub.skip rfl (Sub.skip rfl (Sub.skip rfl (Sub.skip rfl (Sub.skip rfl (Sub.refl _))))))) hk
    refine o_pure (p_move (v := .bool (((Rg.check l) == (Rg.check l)) && ((Rg.owner l a) == 0))) rfl) rfl rfl rfl ?_
    refine o_and (p := 152) 4 ((Rg.ownErr l a) == (Rg.check l)) ?_ ?_ ?_
    · intro hb62 hk
      simp only [Bool.and_eq_true, beq_iff_eq] at hb62
      refine o_unguard 148 rfl rfl ?_
      refine o_pure (p_move (v := .int .i64 (Rg.ownErr l a)) rfl) rfl rfl rfl ?_
      refine o_unguard 148 rfl rfl ?_
      refine o_pure (p_move (v := .int .i64 (Rg.check l)) rfl) rfl rfl rfl ?_
      refine o_unguard 148 rfl rfl ?_
      refine o_pure (p_eq (p := (Rg.ownErr l a)) (q := (Rg.check l)) rfl rfl) rfl rfl rfl ?_
      refine o_pure (p_pick_true (u := .bool ((Rg.ownErr l a) == (Rg.check l))) rfl rfl) rfl rfl rfl ?_
      exact o_sub (Sub.cons rfl (Sub.skip rfl (Sub.skip rfl (Sub.skip rfl (Sub.skip rfl (Sub.skip rfl (Sub.refl _))))))) hk
    · intro hb62 hk
      refine o_guard_no rfl 148 rfl rfl rfl rfl rfl ?_
      refine o_guard_no rfl 148 rfl rfl rfl rfl rfl ?_
      refine o_guard_no rfl 148 rfl rfl rfl rfl rfl ?_
      refine o_pure (p_pick_false (v := .bool false) rfl rfl) rfl rfl rfl ?_
      exact o_sub (Sub.cons rfl (Sub.skip rfl (Sub.skip rfl (Sub.skip rfl (Sub.skip rfl (Sub.skip rfl (Sub.refl _))))))) hk
    refine o_pure (p_move (v := .bool ((((Rg.check l) == (Rg.check l)) && ((Rg.owner l a) == 0)) && ((Rg.ownErr l a) == (Rg.check l)))) rfl) rfl rfl rfl ?_
    refine o_and (p := 157) 4 (decide ((Rg.add l s (ps.take ((min (ps.length : Int) 70).toNat))) = [])) ?_ ?_ ?_
    · intro hb63 hk
      simp only [Bool.and_eq_true, beq_iff_eq] at hb63
      refine o_unguard 153 rfl rfl ?_
      refine o_pure (p_move (v := .slice a3 (Rg.add l s (ps.take ((min (ps.length : Int) 70).toNat))).length c4) rfl) rfl rfl rfl ?_
      refine o_unguard 153 rfl rfl ?_
      refine o_pure (p_move (v := .slice none 0 0) rfl) rfl rfl rfl ?_
      refine o_unguard 153 rfl rfl ?_
      refine o_call0 (v := .bool (decide ((Rg.add l s (ps.take ((min (ps.length : Int) 70).toNat))) = []))) rfl (samePoints_ok (Rg.add l s (ps.take ((min (ps.length : Int) 70).toNat))) a3 c4 [] none 0) hf25 (fun w hw => ⟨(rd_own (i := 2) rfl) w hw, rd_nil w hw⟩) rfl ?_
      refine o_pure (p_pick_true (u := .bool (decide ((Rg.add l s (ps.take ((min (ps.length : Int) 70).toNat))) = []))) rfl rfl) rfl rfl rfl ?_
      exact o_sub (Sub.cons rfl (Sub.skip rfl (Sub.skip rfl (Sub.skip rfl (Sub.skip rfl (Sub.skip rfl (Sub.refl _))))))) hk
    · intro hb63 hk
      refine o_guard_no rfl 153 rfl rfl rfl rfl rfl ?_
      refine o_guard_no rfl 153 rfl rfl rfl rfl rfl ?_
      refine o_guard_no rfl 153 rfl rfl rfl rfl rfl ?_
      refine o_pure (p_pick_false (v := .bool false) rfl rfl) rfl rfl rfl ?_
      exact o_sub (Sub.cons rfl (Sub.skip rfl (Sub.skip rfl (Sub.skip rfl (Sub.skip rfl (Sub.skip rfl (Sub.refl _))))))) hk
    refine o_pure (p_move (v := .bool (((((Rg.check l) == (Rg.check l)) && ((Rg.owner l a) == 0)) && ((Rg.ownErr l a) == (Rg.check l))) && (decide ((Rg.add l s (ps.take ((min (ps.length : Int) 70).toNat))) = [])))) rfl) rfl rfl rfl ?_
    refine o_and (p := 162) 4 ((Rg.addErr l s (ps.take ((min (ps.length : Int) 70).toNat))) == (Rg.check l)) ?_ ?_ ?_
    · intro hb64 hk
      simp only [Bool.and_eq_true, beq_iff_eq, decide_eq_true_eq] at hb64
      refine o_unguard 158 rfl rfl ?_
      refine o_pure (p_move (v := .int .i64 (Rg.addErr l s (ps.take ((min (ps.length : Int) 70).toNat)))) rfl) rfl rfl rfl ?_
      refine o_unguard 158 rfl rfl ?_
      refine o_pure (p_move (v := .int .i64 (Rg.check l)) rfl) rfl rfl rfl ?_
      refine o_unguard 158 rfl rfl ?_
      refine o_pure (p_eq (p := (Rg.addErr l s (ps.take ((min (ps.length : Int) 70).toNat)))) (q := (Rg.check l)) rfl rfl) rfl rfl rfl ?_
      refine o_pure (p_pick_true (u := .bool ((Rg.addErr l s (ps.take ((min (ps.length : Int) 70).toNat))) == (Rg.check l))) rfl rfl) rfl rfl rfl ?_
      exact o_sub (Sub.cons rfl (Sub.skip rfl (Sub.skip rfl (Sub.skip rfl (Sub.skip rfl (Sub.skip rfl (Sub.refl _))))))) hk
    · intro hb64 hk
      refine o_guard_no rfl 158 rfl rfl rfl rfl rfl ?_
      refine o_guard_no rfl 158 rfl rfl rfl rfl rfl ?_
      refine o_guard_no rfl 158 rfl rfl rfl rfl rfl ?_
      refine o_pure (p_pick_false (v := .bool false) rfl rfl) rfl rfl rfl ?_
      exact o_sub (Sub.cons rfl (Sub.skip rfl (Sub.skip rfl (Sub.skip rfl (Sub.skip rfl (Sub.skip rfl (Sub.refl _))))))) hk
    refine o_pure (p_move (v := .bool ((((((Rg.check l) == (Rg.check l)) && ((Rg.owner l a) == 0)) && ((Rg.ownErr l a) == (Rg.check l))) && (decide ((Rg.add l s (ps.take ((min (ps.length : Int) 70).toNat))) = []))) && ((Rg.addErr l s (ps.take ((min (ps.length : Int) 70).toNat))) == (Rg.check l)))) rfl) rfl rfl rfl ?_
    refine o_and (p := 167) 4 (decide ((Rg.rem l s) = [])) ?_ ?_ ?_
    · intro hb65 hk
      simp only [Bool.and_eq_true, beq_iff_eq, decide_eq_true_eq] at hb65
      refine o_unguard 163 rfl rfl ?_
      refine o_pure (p_move (v := .slice a8 (Rg.rem l s).length c9) rfl) rfl rfl rfl ?_
      refine o_unguard 163 rfl rfl ?_
      refine o_pure (p_move (v := .slice none 0 0) rfl) rfl rfl rfl ?_
      refine o_unguard 163 rfl rfl ?_
      refine o_call0 (v := .bool (decide ((Rg.rem l s) = []))) rfl (samePoints_ok (Rg.rem l s) a8 c9 [] none 0) hf25 (fun w hw => ⟨(rd_own (i := 1) rfl) w hw, rd_nil w hw⟩) rfl ?_
      refine o_pure (p_pick_true (u := .bool (decide ((Rg.rem l s) = []))) rfl rfl) rfl rfl rfl ?_
      exact o_sub (Sub.cons rfl (Sub.skip rfl (Sub.skip rfl (Sub.skip rfl (Sub.skip rfl (Sub.skip rfl (Sub.refl _))))))) hk
    · intro hb65 hk
      refine o_guard_no rfl 163 rfl rfl rfl rfl rfl ?_
      refine o_guard_no rfl 163 rfl rfl rfl rfl rfl ?_
      refine o_guard_no rfl 163 rfl rfl rfl rfl rfl ?_
      refine o_pure (p_pick_false (v := .bool false) rfl rfl) rfl rfl rfl ?_
      exact o_sub (Sub.cons rfl (Sub.skip rfl (Sub.skip rfl (Sub.skip rfl (Sub.skip rfl (Sub.skip rfl (Sub.refl _))))))) hk
    refine o_pure (p_move (v := .bool (((((((Rg.check l) == (Rg.check l)) && ((Rg.owner l a) == 0)) && ((Rg.ownErr l a) == (Rg.check l))) && (decide ((Rg.add l s (ps.take ((min (ps.length : Int) 70).toNat))) = []))) && ((Rg.addErr l s (ps.take ((min (ps.length : Int) 70).toNat))) == (Rg.check l))) && (decide ((Rg.rem l s) = [])))) rfl) rfl rfl rfl ?_
    refine o_and (p := 172) 4 ((Rg.remErr l s) == (Rg.check l)) ?_ ?_ ?_
    · intro hb66 hk
      simp only [Bool.and_eq_true, beq_iff_eq, decide_eq_true_eq] at hb66
      refine o_unguard 168 rfl rfl ?_
      refine o_pure (p_move (v := .int .i64 (Rg.remErr l s)) rfl) rfl rfl rfl ?_
      refine o_unguard 168 rfl rfl ?_
      refine o_pure (p_move (v := .int .i64 (Rg.check l)) rfl) rfl rfl rfl ?_
      refine o_unguard 168 rfl rfl ?_
      refine o_pure (p_eq (p := (Rg.remErr l s)) (q := (Rg.check l)) rfl rfl) rfl rfl rfl ?_
      refine o_pure (p_pick_true (u := .bool ((Rg.remErr l s) == (Rg.check l))) rfl rfl) rfl rfl rfl ?_
      exact o_sub (Sub.cons rfl (Sub.skip rfl (Sub.skip rfl (Sub.skip rfl (Sub.skip rfl (Sub.skip rfl (Sub.refl _))))))) hk
    · intro hb66 hk
      refine o_guard_no rfl 168 rfl rfl rfl rfl rfl ?_
      refine o_guard_no rfl 168 rfl rfl rfl rfl rfl ?_
      refine o_guard_no rfl 168 rfl rfl rfl rfl rfl ?_
      refine o_pure (p_pick_false (v := .bool false) rfl rfl) rfl rfl rfl ?_
      exact o_sub (Sub.cons rfl (Sub.skip rfl (Sub.skip rfl (Sub.skip rfl (Sub.skip rfl (Sub.skip rfl (Sub.refl _))))))) hk
    refine o_pure (p_move (v := .bool ((((((((Rg.check l) == (Rg.check l)) && ((Rg.owner l a) == 0)) && ((Rg.ownErr l a) == (Rg.check l))) && (decide ((Rg.add l s (ps.take ((min (ps.length : Int) 70).toNat))) = []))) && ((Rg.addErr l s (ps.take ((min (ps.length : Int) 70).toNat))) == (Rg.check l))) && (decide ((Rg.rem l s) = []))) && ((Rg.remErr l s) == (Rg.check l)))) rfl) rfl rfl rfl ?_
    refine o_and (p := 177) 4 (Ref.sameInts (Rg.shares l n) []) ?_ ?_ ?_
    · intro hb67 hk
      simp only [Bool.and_eq_true, beq_iff_eq, decide_eq_true_eq] at hb67
      refine o_unguard 173 rfl rfl ?_
      refine o_pure (p_move (v := .slice a13 (Rg.shares l n).length c14) rfl) rfl rfl rfl ?_
      refine o_unguard 173 rfl rfl ?_
      refine o_pure (p_move (v := .slice none 0 0) rfl) rfl rfl rfl ?_
      refine o_unguard 173 rfl rfl ?_
      refine o_call0 (v := .bool (Ref.sameInts (Rg.shares l n) [])) rfl (sameInts_ok (Rg.shares l n) a13 c14 [] none 0) hf26 (fun w hw => ⟨(rd_own (i := 0) rfl) w hw, rd_nil w hw⟩) rfl ?_
      refine o_pure (p_pick_true (u := .bool (Ref.sameInts (Rg.shares l n) [])) rfl rfl) rfl rfl rfl ?_
      exact o_sub (Sub.cons rfl (Sub.skip rfl (Sub.skip rfl (Sub.skip rfl (Sub.skip rfl (Sub.skip rfl (Sub.refl _))))))) hk
    · intro hb67 hk
      refine o_guard_no rfl 173 rfl rfl rfl rfl rfl ?_
      refine o_guard_no rfl 173 rfl rfl rfl rfl rfl ?_
      refine o_guard_no rfl 173 rfl rfl rfl rfl rfl ?_
      refine o_pure (p_pick_false (v := .bool false) rfl rfl) rfl rfl rfl ?_
      exact o_sub (Sub.cons rfl (Sub.skip rfl (Sub.skip rfl (Sub.skip rfl (Sub.skip rfl (Sub.skip rfl (Sub.refl _))))))) hk
    refine o_pure (p_move (v := .bool (((((((((Rg.check l) == (Rg.check l)) && ((Rg.owner l a) == 0)) && ((Rg.ownErr l a) == (Rg.check l))) && (decide ((Rg.add l s (ps.take ((min (ps.length : Int) 70).toNat))) = []))) && ((Rg.addErr l s (ps.take ((min (ps.length : Int) 70).toNat))) == (Rg.check l))) && (decide ((Rg.rem l s) = []))) && ((Rg.remErr l s) == (Rg.check l))) && (Ref.sameInts (Rg.shares l n) []))) rfl) rfl rfl rfl ?_
    refine o_and (p := 182) 4 ((Rg.shErr l n) == (Rg.check l)) ?_ ?_ ?_
    · intro hb68 hk
      simp only [Bool.and_eq_true, beq_iff_eq, decide_eq_true_eq] at hb68
      refine o_unguard 178 rfl rfl ?_
      refine o_pure (p_move (v := .int .i64 (Rg.shErr l n)) rfl) rfl rfl rfl ?_
      refine o_unguard 178 rfl rfl ?_
      refine o_pure (p_move (v := .int .i64 (Rg.check l)) rfl) rfl rfl rfl ?_
      refine o_unguard 178 rfl rfl ?_
      refine o_pure (p_eq (p := (Rg.shErr l n)) (q := (Rg.check l)) rfl rfl) rfl rfl rfl ?_
      refine o_pure (p_pick_true (u := .bool ((Rg.shErr l n) == (Rg.check l))) rfl rfl) rfl rfl rfl ?_
      exact o_sub (Sub.cons rfl (Sub.skip rfl (Sub.skip rfl (Sub.skip rfl (Sub.skip rfl (Sub.skip rfl (Sub.refl _))))))) hk
    · intro hb68 hk
      refine o_guard_no rfl 178 rfl rfl rfl rfl rfl ?_
      refine o_guard_no rfl 178 rfl rfl rfl rfl rfl ?_
      refine o_guard_no rfl 178 rfl rfl rfl rfl rfl ?_
      refine o_pure (p_pick_false (v := .bool false) rfl rfl) rfl rfl rfl ?_
      exact o_sub (Sub.cons rfl (Sub.skip rfl (Sub.skip rfl (Sub.skip rfl (Sub.skip rfl (Sub.skip rfl (Sub.refl _))))))) hk
    refine o_pure (p_assign (v := .bool ((((((((((Rg.check l) == (Rg.check l)) && ((Rg.owner l a) == 0)) && ((Rg.ownErr l a) == (Rg.check l))) && (decide ((Rg.add l s (ps.take ((min (ps.length : Int) 70).toNat))) = []))) && ((Rg.addErr l s (ps.take ((min (ps.length : Int) 70).toNat))) == (Rg.check l))) && (decide ((Rg.rem l s) = []))) && ((Rg.remErr l s) == (Rg.check l))) && (Ref.sameInts (Rg.shares l n) [])) && ((Rg.shErr l n) == (Rg.check l)))) rfl) rfl rfl rfl ?_
    refine o_nil ?_
    refine q_then ?_
    refine c_ret ?_
    have hr0 : (((((((((((Rg.check l) == (Rg.check l)) && ((Rg.owner l a) == 0)) && ((Rg.ownErr l a) == (Rg.check l))) && (decide ((Rg.add l s (ps.take ((min (ps.length : Int) 70).toNat))) = []))) && ((Rg.addErr l s (ps.take ((min (ps.length : Int) 70).toNat))) == (Rg.check l))) && (decide ((Rg.rem l s) = []))) && ((Rg.remErr l s) == (Rg.check l))) && (Ref.sameInts (Rg.shares l n) [])) && ((Rg.shErr l n) == (Rg.check l))) : Bool) = true := by
      first | (have h9 : Rg.check l ≠ 0 := (by assumption); obtain ⟨q1, q2⟩ := Rg.ow1 (a := a) h9; obtain ⟨q3, q4⟩ := Rg.ad1 (s := s) (ps := (ps.take (min (ps.length : Int) 70).toNat)) h9; obtain ⟨q5, q6⟩ := Rg.re1 (s := s) h9; obtain ⟨q7, q8⟩ := Rg.sh1 (n := n) h9; simp [q1, q2, q3, q4, q5, q6, q7, q8, Ref.sameInts]; done) | (have q9 := hI.done (by simp_all); simp [← hj1.1, ← hj1.2, ← hj2.1, ← hj2.2, ← q9, hj3, Ref.sameInts]; done)
    refine q_end0 (v := .bool ((((((((((Rg.check l) == (Rg.check l)) && ((Rg.owner l a) == 0)) && ((Rg.ownErr l a) == (Rg.check l))) && (decide ((Rg.add l s (ps.take ((min (ps.length : Int) 70).toNat))) = []))) && ((Rg.addErr l s (ps.take ((min (ps.length : Int) 70).toNat))) == (Rg.check l))) && (decide ((Rg.rem l s) = []))) && ((Rg.remErr l s) == (Rg.check l))) && (Ref.sameInts (Rg.shares l n) [])) && ((Rg.shErr l n) == (Rg.check l)))) (rt1 rfl (r_tmp rfl)) (i := 3) rfl ?_
    exact (by have hcc := congrArg (fun (y0 : Bool) => (.bool y0 : Value)) hr0; exact hcc)
end Go.Proofs.Ytgjdmnljnimamaa
