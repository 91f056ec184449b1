/- The walks, printed by a program from the translation and a specification. -/
import Derived.Test.YtgjdmnljnimamaaRgF
import Derived.Test.YtgjdmnljnimamaaRgLaw3
import Derived.Test.YtgjdmnljnimamaaRgW3
import Derived.Test.YtgjdmnljnimamaaRgW1
namespace Go.Proofs.Ytgjdmnljnimamaa
open Go.Sx Go.RowKit
set_option maxHeartbeats 8000000 in
set_option maxRecDepth 100000 in
theorem radd1_ok (n : Int) : Fn0 Try.prog 52 [.int .i64 n] (fun _ => True) (.bool (!Rg.okAt n)) := by
  refine fn0 (nt := 6) (F0 := [(0, .int .i64 n)]) Try.func52 rfl Try.ntmps52 rfl rfl (fun w0 hpre => ?_)
  refine c_seq ?_
  refine c_region ?_
  refine o_pure (p_assign (v := .bool false) rfl) rfl rfl rfl ?_
  refine o_nil ?_
  refine q_then ?_
  refine c_seq ?_
  refine c_region ?_
  refine o_pure (p_move (v := .int .i64 n) rfl) rfl rfl rfl ?_
  refine o_call0 (v := .bool (Rg.okAt n)) rfl (rplace_ok n) hf47 (fun _ _ => trivial) rfl ?_
  refine o_pure (p_not (b := (Rg.okAt n)) rfl) rfl rfl rfl ?_
  refine o_pure (p_assign (v := .bool (!(Rg.okAt n))) rfl) rfl rfl rfl ?_
  refine o_nil ?_
  refine q_then ?_
  refine c_ret ?_
  have hr0 : ((!(Rg.okAt n)) : Bool) = (!Rg.okAt n) := by
    rfl
  refine q_end0 (v := .bool (!(Rg.okAt n))) (rt1 rfl (r_tmp rfl)) (i := 0) rfl ?_
  exact (by have hcc := congrArg (fun (y0 : Bool) => (.bool y0 : Value)) hr0; exact hcc)

set_option maxHeartbeats 8000000 in
set_option maxRecDepth 100000 in
theorem radd_ok (l : List DPoint) (al : Option Addr) (cl : Nat) (s : Int) (ps : List Int) (aps : Option Addr) (cps : Nat) : FnM Try.prog 16 [.slice al l.length cl, .int .i64 s, .slice aps ps.length cps] (fun w => Rd tPoint w al cl l ∧ Rd tInt w aps cps ps) (Option Addr × Nat) (fun p => .tuple #[.slice p.1 (Rg.add l s ps).length p.2, .int .i64 (Rg.addErr l s ps)]) (fun p S w => SlO tPoint S w p.1 p.2 (Rg.add l s ps)) := by
  refine fnM (nt := 53) (F0 := [(0, .slice al l.length cl), (1, .int .i64 s), (2, .slice aps ps.length cps)]) Try.func16 rfl Try.ntmps16 rfl rfl (fun w0 hpre => ?_)
  obtain ⟨hl, hps⟩ := hpre
  have hlhl := hl.2.1
  have hlhps := hps.2.1
  refine c_seq ?_
  refine c_region ?_
  refine o_pure (p_assign (v := .slice none 0 0) rfl) rfl rfl rfl ?_
  refine o_pure (p_assign (v := .int .i64 0) rfl) rfl rfl rfl ?_
  refine o_nil ?_
  refine q_then ?_
  refine c_seq ?_
  refine c_seq ?_
  refine c_region ?_
  refine o_pure (p_move (v := .slice al l.length cl) rfl) rfl rfl rfl ?_
  refine o_call0 (v := .int .i64 (Rg.check l)) rfl (rcheck_ok l al cl) hf24 (fun w hw => (rd_base (i := 0) rfl hl) w hw) rfl ?_
  refine o_pure (p_assign (v := .int .i64 (Rg.check l)) rfl) rfl rfl rfl ?_
  refine o_nil ?_
  refine q_then ?_
  refine c_seq ?_
  refine c_region ?_
  refine o_pure (p_move (v := .int .i64 (Rg.check l)) rfl) rfl rfl rfl ?_
  refine o_pure (p_ne (p := (Rg.check l)) (q := 0) rfl rfl) rfl rfl rfl ?_
  refine o_nil ?_
  refine q_then ?_
  refine c_cond (b := ((Rg.check l) != 0)) rfl (fun hc1 => ?_) (fun hc1 => ?_)
  · simp only [bne_iff_ne, ne_eq] at hc1
    refine c_seq ?_
    refine c_region ?_
    refine o_pure (p_move (v := .int .i64 (Rg.check l)) rfl) rfl rfl rfl ?_
    refine o_pure (p_assign (v := .slice none 0 0) rfl) rfl rfl rfl ?_
    refine o_pure (p_assign (v := .int .i64 (Rg.check l)) rfl) rfl rfl rfl ?_
    refine o_nil ?_
    refine q_then ?_
    refine c_ret ?_
    refine q_then_ret ?_
    obtain ⟨hv1, hv2⟩ : _ ∧ _ := by first | exact Rg.ad1 (l := l) (s := s) (ps := ps) (by assumption) | exact Rg.ad2 hck hwr | exact Rg.ad3 hck hri (hI.twice (by omega) (by assumption)) | exact Rg.ad4 hck hri hdn (by omega) | exact Rg.ad5 hck hri hdn (by omega)
    have hr0 : ([] : List DPoint) = (Rg.add l s ps) := by
      first | exact hv1.symm | exact hv2.symm
    have hr1 : ((Rg.check l) : Int) = (Rg.addErr l s ps) := by
      first | exact hv1.symm | exact hv2.symm
    refine q_endM (p := (none, 0)) (fun _ => False) (rt2 rfl (r_tmp rfl) (r_tmp rfl)) (i := 0) rfl ?_ ?_ ?_
    · exact (by have hcc := congr (congrArg (fun (y0 : List DPoint) (y1 : Int) => (.tuple #[.slice none y0.length 0, .int .i64 y1] : Value)) hr0) hr1; exact hcc)
    · intro w hw b hb; exact hb.elim
    · intro w hw; exact Eq.mp (congrArg (fun y => SlO tPoint _ w none 0 y) hr0) (SlO.nil tPoint w)
  · simp only [bne_eq_false_iff_eq] at hc1
    have hck := hc1
    have hok := Rg.check_ok.1 hck
    have hlen := hok.len
    refine c_skip ?_
    refine q_then ?_
    refine c_seq ?_
    refine c_seq ?_
    refine c_region ?_
    refine o_pure (p_move (v := .int .i64 s) rfl) rfl rfl rfl ?_
    refine o_call0 (v := .bool (Rg.okShard s)) rfl (rshard_ok s) hf50 (fun _ _ => trivial) rfl ?_
    refine o_pure (p_not (b := (Rg.okShard s)) rfl) rfl rfl rfl ?_
    refine o_pure (p_move (v := .bool (!(Rg.okShard s))) rfl) rfl rfl rfl ?_
    refine o_or (p := 25) 3 (ps.any (fun x : Int => (!Rg.okAt x))) ?_ ?_ ?_
    · intro hb2 hk
      simp only [Bool.not_eq_false'] at hb2
      refine o_unguard 22 rfl rfl ?_
      refine o_pure (p_move (v := .slice aps ps.length cps) rfl) rfl rfl rfl ?_
      refine o_unguard 22 rfl rfl ?_
      refine o_call0 (v := .bool (ps.any (fun x : Int => (!Rg.okAt x)))) rfl (containsFunc_Int_ok ps aps cps 52 [] (fun x => (!Rg.okAt x)) (fun _ => True) (fun _ _ _ h => h) (fun x => radd1_ok x) hf52) hf51 (fun w hw => ⟨(rd_base (i := 0) rfl hps) w hw, trivial⟩) rfl ?_
      refine o_pure (p_pick_false (v := .bool (ps.any (fun x : Int => (!Rg.okAt x)))) rfl rfl) rfl rfl rfl ?_
      exact o_sub (Sub.cons rfl (Sub.skip rfl (Sub.skip rfl (Sub.skip rfl (Sub.skip rfl (Sub.refl _)))))) hk
    · intro hb2 hk
      refine o_guard_no rfl 22 rfl rfl rfl rfl rfl ?_
      refine o_guard_no rfl 22 rfl rfl rfl rfl rfl ?_
      refine o_pure (p_pick_true (u := .bool true) rfl rfl) rfl rfl rfl ?_
      exact o_sub (Sub.cons rfl (Sub.skip rfl (Sub.skip rfl (Sub.skip rfl (Sub.skip rfl (Sub.refl _)))))) hk
    refine o_nil ?_
    refine q_then ?_
    refine c_cond (b := ((!(Rg.okShard s)) || (ps.any (fun x : Int => (!Rg.okAt x))))) rfl (fun hc3 => ?_) (fun hc3 => ?_)
    · simp only [Bool.or_eq_true, Bool.not_eq_true'] at hc3
      have hwr : Rg.rightAdd s ps = false := by simp only [Rg.rightAdd]; rcases hc3 with h | h <;> simp [h]
      refine c_seq ?_
      refine c_region ?_
      refine o_pure (p_assign (v := .slice none 0 0) rfl) rfl rfl rfl ?_
      refine o_pure (p_assign (v := .int .i64 3) rfl) rfl rfl rfl ?_
      refine o_nil ?_
      refine q_then ?_
      refine c_ret ?_
      refine q_then_ret ?_
      obtain ⟨hv1, hv2⟩ : _ ∧ _ := by first | exact Rg.ad1 (l := l) (s := s) (ps := ps) (by assumption) | exact Rg.ad2 hck hwr | exact Rg.ad3 hck hri (hI.twice (by omega) (by assumption)) | exact Rg.ad4 hck hri hdn (by omega) | exact Rg.ad5 hck hri hdn (by omega)
      have hr0 : ([] : List DPoint) = (Rg.add l s ps) := by
        first | exact hv1.symm | exact hv2.symm
      have hr1 : (3 : Int) = (Rg.addErr l s ps) := by
        first | exact hv1.symm | exact hv2.symm
      refine q_endM (p := (none, 0)) (fun _ => False) (rt2 rfl (r_tmp rfl) (r_tmp rfl)) (i := 0) rfl ?_ ?_ ?_
      · exact (by have hcc := congr (congrArg (fun (y0 : List DPoint) (y1 : Int) => (.tuple #[.slice none y0.length 0, .int .i64 y1] : Value)) hr0) hr1; exact hcc)
      · intro w hw b hb; exact hb.elim
      · intro w hw; exact Eq.mp (congrArg (fun y => SlO tPoint _ w none 0 y) hr0) (SlO.nil tPoint w)
    · simp only [Bool.or_eq_false_iff, Bool.not_eq_false'] at hc3
      have hri : Rg.rightAdd s ps = true := by simp only [Rg.rightAdd]; simp [hc3]
      refine c_skip ?_
      refine q_then ?_
      refine c_seq ?_
      refine c_region ?_
      refine o_pure (p_move (v := .slice al l.length cl) rfl) rfl rfl rfl ?_
      refine o_callM rfl (clone_Point_ok l al cl (by first | assumption | omega | (simp only [List.length_append, List.length_take, List.length_drop]; omega))) hf53 (fun w hw => (rd_base (i := 0) rfl hl) w hw) rfl (fun _ _ _ _ ha hA => SlO.agree ha hA) ?_
      rintro ⟨a6, c7⟩ S4
      refine o_know (fun w hw => own_len (i := 0) (T := tPoint) hw rfl) (fun hlr8 => ?_)
      refine o_pure (p_assign (v := .slice a6 l.length c7) rfl) rfl rfl rfl ?_
      refine o_nil ?_
      refine q_then ?_
      refine c_seq ?_
      refine c_seq ?_
      refine c_region ?_
      refine o_pure (p_move (v := .slice aps ps.length cps) rfl) rfl rfl rfl ?_
      refine o_pure (p_len_slice (len := ps.length) rfl rfl Try.underlying23) rfl rfl rfl ?_
      refine o_pure (p_move (v := .int .i64 0) rfl) rfl rfl rfl ?_
      refine o_nil ?_
      refine q_then ?_
      refine c_block ?_
      refine c_loop (St := List DPoint × Option Addr × Nat × (Nat → Prop) × Nat)
        (fun ⟨out, aout, cout, Sout, k⟩ => [(1, .int .i64 s), (9, .slice aout out.length cout), (28, .slice aps ps.length cps), (29, .int .i64 (ps.length : Int)), (30, .int .i64 (k : Int))])
        (fun ⟨out, aout, cout, Sout, k⟩ => [own tPoint Sout aout cout out, base w0])
        (fun ⟨out, aout, cout, Sout, k⟩ => Rg.AInv l s ps out k)
        (fun ⟨out, aout, cout, Sout, k⟩ => ps.length - k)
        (l, a6, c7, S4, 0) ?_ (Sub.cons rfl (Sub.cons rfl (Sub.cons rfl (Sub.cons rfl (Sub.cons rfl (Sub.nil _)))))) (fun _ hw => hw) ?_
      · exact Rg.AInv.start hok
      rintro ⟨out, aout, cout, Sout, k⟩ hI K hK9
      have hol := hI.len
      show SC _ _ Try.prog 53 w0 _ _ [(1, .int .i64 s), (9, .slice aout out.length cout), (28, .slice aps ps.length cps), (29, .int .i64 (ps.length : Int)), (30, .int .i64 (k : Int))] [own tPoint Sout aout cout out, base w0]
      refine c_seq ?_
      refine c_region ?_
      refine o_pure (p_lt (p := (k : Int)) (q := (ps.length : Int)) rfl rfl) rfl rfl rfl ?_
      refine o_nil ?_
      refine q_then ?_
      refine c_seq ?_
      refine c_cond (b := decide ((k : Int) < (ps.length : Int))) rfl (fun hc10 => ?_) (fun hc10 => ?_)
      · simp only [decide_eq_true_eq] at hc10
        have hlw : lowF (fun x : DPoint => cmpI x.at_ ps[k]) out ≤ out.length := Rg.low_le out ps[k]
        refine c_skip ?_
        refine q_then ?_
        refine c_seq ?_
        refine c_block ?_
        refine c_seq ?_
        refine c_region ?_
        refine o_pure (p_indexAddr (L := ps) (T := tInt) (i := (k : Int)) rfl rfl (rd_base (i := 1) rfl hps) Try.underlying23 sz3 (by omega) (by omega)) rfl rfl rfl ?_
        refine o_pure (p_loadE1 (i := k) (T := tInt) (L := ps) (v := .int .i64 (ps[k])) rfl (rd_base (i := 1) rfl hps) (by first | assumption | omega) sh3 rfl) rfl rfl rfl ?_
        refine o_pure (p_assign (v := .int .i64 (ps[k])) rfl) rfl rfl rfl ?_
        refine o_nil ?_
        refine q_then ?_
        refine c_seq ?_
        refine c_region ?_
        refine o_pure (p_move (v := .slice aout out.length cout) rfl) rfl rfl rfl ?_
        refine o_pure (p_move (v := .int .i64 (ps[k])) rfl) rfl rfl rfl ?_
        refine o_call0 (v := .tuple #[.int .i64 (lowF (fun x => (fun (x : DPoint) (y : Int) => (cmpI x.at_ y)) x (ps[k])) out : Int), .bool (hitF (fun x => (fun (x : DPoint) (y : Int) => (cmpI x.at_ y)) x (ps[k])) out)]) rfl (bsearch_ok out aout cout (ps[k]) 49 [] (fun x y => (cmpI x.at_ y)) (fun _ => True) (fun _ _ _ h => h) (fun x y => rbyAt_ok x y) hf49 (by first | assumption | exact Rg.split_at hok.fine.sorted _ | exact Rg.split_at hI.fine.sorted _)) hf48 (fun w hw => ⟨(rd_own (i := 0) rfl) w hw, trivial⟩) rfl ?_
        refine o_pure (p_move (v := .tuple #[.int .i64 (lowF (fun x => (fun (x : DPoint) (y : Int) => (cmpI x.at_ y)) x (ps[k])) out : Int), .bool (hitF (fun x => (fun (x : DPoint) (y : Int) => (cmpI x.at_ y)) x (ps[k])) out)]) rfl) rfl rfl rfl ?_
        refine o_pure (p_extract (vs := [.int .i64 (lowF (fun x => (fun (x : DPoint) (y : Int) => (cmpI x.at_ y)) x (ps[k])) out : Int), .bool (hitF (fun x => (fun (x : DPoint) (y : Int) => (cmpI x.at_ y)) x (ps[k])) out)]) (v := .int .i64 (lowF (fun x => (fun (x : DPoint) (y : Int) => (cmpI x.at_ y)) x (ps[k])) out : Int)) rfl rfl) rfl rfl rfl ?_
        refine o_pure (p_extract (vs := [.int .i64 (lowF (fun x => (fun (x : DPoint) (y : Int) => (cmpI x.at_ y)) x (ps[k])) out : Int), .bool (hitF (fun x => (fun (x : DPoint) (y : Int) => (cmpI x.at_ y)) x (ps[k])) out)]) (v := .bool (hitF (fun x => (fun (x : DPoint) (y : Int) => (cmpI x.at_ y)) x (ps[k])) out)) rfl rfl) rfl rfl rfl ?_
        refine o_pure (p_assign (v := .int .i64 (lowF (fun x => (fun (x : DPoint) (y : Int) => (cmpI x.at_ y)) x (ps[k])) out : Int)) rfl) rfl rfl rfl ?_
        refine o_pure (p_assign (v := .bool (hitF (fun x => (fun (x : DPoint) (y : Int) => (cmpI x.at_ y)) x (ps[k])) out)) rfl) rfl rfl rfl ?_
        refine o_nil ?_
        refine q_then ?_
        refine c_seq ?_
        refine c_seq ?_
        refine c_region ?_
        refine o_pure (p_move (v := .bool (hitF (fun x => (fun (x : DPoint) (y : Int) => (cmpI x.at_ y)) x (ps[k])) out)) rfl) rfl rfl rfl ?_
        refine o_nil ?_
        refine q_then ?_
        refine c_cond (b := (hitF (fun x => (fun (x : DPoint) (y : Int) => (cmpI x.at_ y)) x (ps[k])) out)) rfl (fun hc11 => ?_) (fun hc11 => ?_)
        · skip
          refine c_seq ?_
          refine c_region ?_
          refine o_pure (p_assign (v := .slice none 0 0) rfl) rfl rfl rfl ?_
          refine o_pure (p_assign (v := .int .i64 6) rfl) rfl rfl rfl ?_
          refine o_nil ?_
          refine q_then ?_
          refine c_ret ?_
          refine q_then_ret (q_block_ret (q_then_ret (q_then_ret (q_block_ret (q_then_ret ?_)))))
          obtain ⟨hv1, hv2⟩ : _ ∧ _ := by first | exact Rg.ad1 (l := l) (s := s) (ps := ps) (by assumption) | exact Rg.ad2 hck hwr | exact Rg.ad3 hck hri (hI.twice (by omega) (by assumption)) | exact Rg.ad4 hck hri hdn (by omega) | exact Rg.ad5 hck hri hdn (by omega)
          have hr0 : ([] : List DPoint) = (Rg.add l s ps) := by
            first | exact hv1.symm | exact hv2.symm
          have hr1 : (6 : Int) = (Rg.addErr l s ps) := by
            first | exact hv1.symm | exact hv2.symm
          refine q_endM (p := (none, 0)) (fun _ => False) (rt2 rfl (r_tmp rfl) (r_tmp rfl)) (i := 1) rfl ?_ ?_ ?_
          · exact (by have hcc := congr (congrArg (fun (y0 : List DPoint) (y1 : Int) => (.tuple #[.slice none y0.length 0, .int .i64 y1] : Value)) hr0) hr1; exact hcc)
          · intro w hw b hb; exact hb.elim
          · intro w hw; exact Eq.mp (congrArg (fun y => SlO tPoint _ w none 0 y) hr0) (SlO.nil tPoint w)
        · skip
          refine c_skip ?_
          refine q_then ?_
          refine c_region ?_
          refine o_pure (p_move (v := .slice aout out.length cout) rfl) rfl rfl rfl ?_
          refine o_pure (p_move (v := .int .i64 (lowF (fun x => (fun (x : DPoint) (y : Int) => (cmpI x.at_ y)) x (ps[k])) out : Int)) rfl) rfl rfl rfl ?_
          refine o_pure (p_move (v := .int .i64 (ps[k])) rfl) rfl rfl rfl ?_
          refine o_pure (p_move (v := .int .i64 s) rfl) rfl rfl rfl ?_
          refine o_pure (p_build (cells := [.int .i64 (ps[k]), .int .i64 s]) fp35 ze35 rfl rfl) rfl rfl rfl ?_
          refine o_buildSlice (m := 1) (T := tPoint) (L := [(⟨ps[k], s⟩ : DPoint)]) (vs := [.agg #[.int .i64 (ps[k]), .int .i64 s]]) rfl rfl rfl rfl Try.underlying22 sz35 (by decide) ze35 rfl (by decide) rfl (fun S12 a13 => ?_)
          refine o_pick (H' := [own tPoint Sout aout cout out, own tPoint S12 a13 ([(⟨ps[k], s⟩ : DPoint)].length) ([(⟨ps[k], s⟩ : DPoint)]), base w0]) [1, 0, 2] (by decide) rfl ?_
          refine o_callX (pre := [own tPoint Sout aout cout out, own tPoint S12 a13 ([(⟨ps[k], s⟩ : DPoint)].length) ([(⟨ps[k], s⟩ : DPoint)])]) (R := [base w0]) rfl (insert_Point_ok out aout cout Sout (lowF (fun x => (fun (x : DPoint) (y : Int) => (cmpI x.at_ y)) x (ps[k])) out : Int) ([(⟨ps[k], s⟩ : DPoint)]) a13 ([(⟨ps[k], s⟩ : DPoint)].length) S12 (by (try simp only [List.length_cons, List.length_nil, List.length_append, List.length_take, List.length_drop, and_true]); omega)) hf54 rfl (fun _ _ => trivial) rfl ?_
          rintro ⟨a15, c16, S17⟩
          refine o_asH (H' := [own tPoint S17 a15 c16 (out.take (lowF (fun x => (fun (x : DPoint) (y : Int) => (cmpI x.at_ y)) x (ps[k])) out : Int).toNat ++ ([(⟨ps[k], s⟩ : DPoint)]) ++ out.drop (lowF (fun x => (fun (x : DPoint) (y : Int) => (cmpI x.at_ y)) x (ps[k])) out : Int).toNat), base w0]) rfl ?_
          refine o_pure (p_assign (v := .slice a15 (out.take (lowF (fun x => (fun (x : DPoint) (y : Int) => (cmpI x.at_ y)) x (ps[k])) out : Int).toNat ++ ([(⟨ps[k], s⟩ : DPoint)]) ++ out.drop (lowF (fun x => (fun (x : DPoint) (y : Int) => (cmpI x.at_ y)) x (ps[k])) out : Int).toNat).length c16) rfl) rfl rfl rfl ?_
          refine o_nil ?_
          refine q_block_normal (q_then ?_)
          refine c_region ?_
          refine o_pure (p_addb (p := (k : Int)) (q := 1) rfl rfl (by omega)) rfl rfl rfl ?_
          refine o_pure (p_move (v := .int .i64 ((k : Int) + 1)) rfl) rfl rfl rfl ?_
          refine o_nil ?_
          refine q_round hK9 ((out.take (lowF (fun x => (fun (x : DPoint) (y : Int) => (cmpI x.at_ y)) x (ps[k])) out : Int).toNat ++ ([(⟨ps[k], s⟩ : DPoint)]) ++ out.drop (lowF (fun x => (fun (x : DPoint) (y : Int) => (cmpI x.at_ y)) x (ps[k])) out : Int).toNat), a15, c16, S17, k + 1) ?_ ?_ ?_ ?_
          · clear hK9
            exact hI.next (by omega) hri (by assumption)
          · (try dsimp only); omega
          · exact Sub.cons rfl (Sub.cons rfl (Sub.cons rfl (Sub.cons rfl (Sub.cons rfl (Sub.nil _)))))
          · exact fun _ hw => HeapIs.pick hw [0, 1] (by decide) rfl
      · simp only [decide_eq_false_iff_not, Int.not_lt] at hc10
        have hdn := hI.done (by omega)
        refine c_exit ?_
        refine q_then_exit (q_then_exit (q_block_exit (q_then ?_)))
        refine c_seq ?_
        refine c_seq ?_
        refine c_region ?_
        refine o_pure (p_move (v := .slice aout out.length cout) rfl) rfl rfl rfl ?_
        refine o_pure (p_len_slice (len := out.length) rfl rfl Try.underlying22) rfl rfl rfl ?_
        refine o_pure (p_gt (p := (out.length : Int)) (q := 60) rfl rfl) rfl rfl rfl ?_
        refine o_nil ?_
        refine q_then ?_
        refine c_cond (b := decide (60 < (out.length : Int))) rfl (fun hc19 => ?_) (fun hc19 => ?_)
        · simp only [decide_eq_true_eq] at hc19
          refine c_seq ?_
          refine c_region ?_
          refine o_pure (p_assign (v := .slice none 0 0) rfl) rfl rfl rfl ?_
          refine o_pure (p_assign (v := .int .i64 2) rfl) rfl rfl rfl ?_
          refine o_nil ?_
          refine q_then ?_
          refine c_ret ?_
          refine q_then_ret ?_
          obtain ⟨hv1, hv2⟩ : _ ∧ _ := by first | exact Rg.ad1 (l := l) (s := s) (ps := ps) (by assumption) | exact Rg.ad2 hck hwr | exact Rg.ad3 hck hri (hI.twice (by omega) (by assumption)) | exact Rg.ad4 hck hri hdn (by omega) | exact Rg.ad5 hck hri hdn (by omega)
          have hr0 : ([] : List DPoint) = (Rg.add l s ps) := by
            first | exact hv1.symm | exact hv2.symm
          have hr1 : (2 : Int) = (Rg.addErr l s ps) := by
            first | exact hv1.symm | exact hv2.symm
          refine q_endM (p := (none, 0)) (fun _ => False) (rt2 rfl (r_tmp rfl) (r_tmp rfl)) (i := 1) rfl ?_ ?_ ?_
          · exact (by have hcc := congr (congrArg (fun (y0 : List DPoint) (y1 : Int) => (.tuple #[.slice none y0.length 0, .int .i64 y1] : Value)) hr0) hr1; exact hcc)
          · intro w hw b hb; exact hb.elim
          · intro w hw; exact Eq.mp (congrArg (fun y => SlO tPoint _ w none 0 y) hr0) (SlO.nil tPoint w)
        · simp only [decide_eq_false_iff_not, Int.not_lt] at hc19
          refine c_skip ?_
          refine q_then ?_
          refine c_seq ?_
          refine c_region ?_
          refine o_pure (p_move (v := .slice aout out.length cout) rfl) rfl rfl rfl ?_
          refine o_pure (p_assign (v := .slice aout out.length cout) rfl) rfl rfl rfl ?_
          refine o_pure (p_assign (v := .int .i64 0) rfl) rfl rfl rfl ?_
          refine o_nil ?_
          refine q_then ?_
          refine c_ret ?_
          obtain ⟨hv1, hv2⟩ : _ ∧ _ := by first | exact Rg.ad1 (l := l) (s := s) (ps := ps) (by assumption) | exact Rg.ad2 hck hwr | exact Rg.ad3 hck hri (hI.twice (by omega) (by assumption)) | exact Rg.ad4 hck hri hdn (by omega) | exact Rg.ad5 hck hri hdn (by omega)
          have hr0 : (out : List DPoint) = (Rg.add l s ps) := by
            first | exact hv1.symm | exact hv2.symm
          have hr1 : (0 : Int) = (Rg.addErr l s ps) := by
            first | exact hv1.symm | exact hv2.symm
          refine q_endM (p := (aout, cout)) Sout (rt2 rfl (r_tmp rfl) (r_tmp rfl)) (i := 1) rfl ?_ ?_ ?_
          · exact (by have hcc := congr (congrArg (fun (y0 : List DPoint) (y1 : Int) => (.tuple #[.slice aout y0.length cout, .int .i64 y1] : Value)) hr0) hr1; exact hcc)
          · exact fun w hw => hw.above (i := 1) (j := 0) (by decide) rfl rfl
          · intro w hw; exact Eq.mp (congrArg (fun y => SlO tPoint _ w aout cout y) hr0) ((hw.at (i := 0) rfl).here)
end Go.Proofs.Ytgjdmnljnimamaa
