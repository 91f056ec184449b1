/- The walks, printed by a program from the translation and a specification. -/
import Derived.Test.YthecfjipaepcgaaWkF
import Derived.Test.YthecfjipaepcgaaWsLaw5
import Derived.Test.YthecfjipaepcgaaExLaw
import Derived.Test.YthecfjipaepcgaaWkW11
import Derived.Test.YthecfjipaepcgaaWsLaw7
namespace Go.Proofs.Ythecfjipaepcgaa
open Go.Sx Go.RowKit
set_option maxHeartbeats 8000000 in
set_option maxRecDepth 100000 in
theorem workPhases_ok (l : List Int) (al : Option Addr) (cl : Nat) (wd : Int) (least : Int) (hy1 : (1 ≤ wd ∧ wd ≤ 200) ∧ l.length ≤ 200 ∧ ∀ x ∈ l, 0 ≤ x) : FnM Try.prog 47 [.slice al l.length cl, .int .i64 wd, .int .i64 least] (fun w => Rd tInt w al cl l) (Option Addr × Nat) (fun p => .slice p.1 ((Ws.ph l wd least l.length).1).length p.2) (fun p S w => SlO tInt S w p.1 p.2 ((Ws.ph l wd least l.length).1)) := by
  refine fnM (nt := 66) (F0 := [(0, .slice al l.length cl), (1, .int .i64 wd), (2, .int .i64 least)]) Try.func47 rfl Try.ntmps47 rfl rfl (fun w0 hpre => ?_)
  have hl := hpre
  have hlhl := hl.2.1
  obtain ⟨hwb, h200, hk0⟩ := id hy1
  refine c_seq ?_
  refine c_region ?_
  refine o_pure (p_assign (v := .slice none 0 0) rfl) rfl rfl rfl ?_
  refine o_nil ?_
  refine q_then ?_
  refine c_seq ?_
  refine c_region ?_
  refine o_pure (p_assign (v := .slice none 0 0) rfl) rfl rfl rfl ?_
  refine o_nil ?_
  refine q_then ?_
  refine c_seq ?_
  refine c_seq ?_
  refine c_region ?_
  refine o_pure (p_assign (v := .int .i64 0) rfl) rfl rfl rfl ?_
  refine o_nil ?_
  refine q_then ?_
  refine c_block ?_
  refine c_ownNil tInt ?_
  refine c_loop (St := List Int × Option Addr × Nat × (Nat → Prop) × Nat)
    (fun ⟨out, aout, cout, Sout, i⟩ => [(0, .slice al l.length cl), (1, .int .i64 wd), (2, .int .i64 least), (7, .slice aout out.length cout), (8, .int .i64 (i : Int))])
    (fun ⟨out, aout, cout, Sout, i⟩ => [own tInt Sout aout cout out, base w0])
    (fun ⟨out, aout, cout, Sout, i⟩ => Ws.PR l wd least out i)
    (fun ⟨out, aout, cout, Sout, i⟩ => l.length - i)
    ([], none, 0, (fun _ => False), 0) ?_ (Sub.cons rfl (Sub.cons rfl (Sub.cons rfl (Sub.cons rfl (Sub.cons rfl (Sub.nil _)))))) (fun _ hw => hw) ?_
  · exact Ws.PR.start l wd least
  rintro ⟨out, aout, cout, Sout, i⟩ hI K hK2
  have hle := hI.le
  have hpl := hI.len
  have hP := hI
  show SC _ _ Try.prog 66 w0 _ _ [(0, .slice al l.length cl), (1, .int .i64 wd), (2, .int .i64 least), (7, .slice aout out.length cout), (8, .int .i64 (i : Int))] [own tInt Sout aout cout out, base w0]
  refine c_seq ?_
  refine c_seq ?_
  refine c_region ?_
  refine o_pure (p_move (v := .int .i64 (i : Int)) rfl) rfl rfl rfl ?_
  refine o_pure (p_move (v := .slice al l.length cl) rfl) rfl rfl rfl ?_
  refine o_pure (p_len_slice (len := l.length) rfl rfl Try.underlying45) rfl rfl rfl ?_
  refine o_pure (p_lt (p := (i : Int)) (q := (l.length : Int)) rfl rfl) rfl rfl rfl ?_
  refine o_nil ?_
  refine q_then ?_
  refine c_cond (b := decide ((i : Int) < (l.length : Int))) rfl (fun hc3 => ?_) (fun hc3 => ?_)
  · simp only [decide_eq_true_eq] at hc3
    refine c_skip ?_
    refine q_then ?_
    refine c_seq ?_
    refine c_block ?_
    refine c_seq ?_
    refine c_seq ?_
    refine c_region ?_
    refine o_pure (p_move (v := .int .i64 (i : Int)) rfl) rfl rfl rfl ?_
    refine o_pure (p_eq (p := (i : Int)) (q := 0) rfl rfl) rfl rfl rfl ?_
    refine o_nil ?_
    refine q_then ?_
    refine c_cond (b := ((i : Int) == 0)) rfl (fun hc4 => ?_) (fun hc4 => ?_)
    · simp only [beq_iff_eq] at hc4
      have hz0 := hc4
      refine c_seq ?_
      refine c_region ?_
      refine o_pure (p_move (v := .slice aout out.length cout) rfl) rfl rfl rfl ?_
      refine o_buildSlice (m := 1) (T := tInt) (L := [0]) (vs := [.int .i64 0]) rfl rfl rfl rfl Try.underlying45 sz3 (by decide) ze3 rfl (by decide) rfl (fun S5 a6 => ?_)
      refine o_append (i := 1) (L := out) (M := [0]) (T := tInt) rfl rfl rfl (rd_own (i := 0) rfl) Try.underlying45 Try.underlying45 (by intro k h; cases h) el3 (by intro z; simp [tInt, one1]) (by decide) (by first | omega | (simp only [List.length_cons, List.length_nil]; omega) | (simp only [List.length_append, List.length_cons, List.length_nil, List.length_take, List.length_drop]; omega)) rfl (fun a8 c9 S10 => ?_)
      refine o_pure (p_assign (v := .slice a8 (out ++ [0]).length c9) rfl) rfl rfl rfl ?_
      refine o_nil ?_
      refine q_then ?_
      refine c_exit ?_
      refine q_then_exit (q_block_exit (q_then ?_))
      refine c_region ?_
      refine o_pure (p_move (v := .int .i64 (i : Int)) rfl) rfl rfl rfl ?_
      refine o_pure (p_addb (p := (i : Int)) (q := 1) rfl rfl (by omega)) rfl rfl rfl ?_
      refine o_pure (p_assign (v := .int .i64 ((i : Int) + 1)) rfl) rfl rfl rfl ?_
      refine o_nil ?_
      refine q_round hK2 ((out ++ [0]), a8, c9, S10, i + 1) ?_ ?_ ?_ ?_
      · clear hK2
        first | exact Ws.PR.add0 hP (by omega) (by omega) | exact Ws.PR.near hP (by omega) (by omega) hp3 hnear | exact Ws.PR.take2 hP (by omega) (by omega) hp3 (by omega) hcm.1 (by omega) hless | exact Ws.PR.skip2 hP (by omega) (by omega) hp3 hcm.1 (by omega) hless
      · (try dsimp only); omega
      · exact Sub.cons rfl (Sub.cons rfl (Sub.cons rfl (Sub.cons rfl (Sub.cons rfl (Sub.nil _)))))
      · exact fun _ hw => HeapIs.pick hw [1, 2] (by decide) rfl
    · simp only [beq_eq_false_iff_ne, ne_eq] at hc4
      have hi0 : 0 < i := by omega
      obtain ⟨hp1, hp2⟩ := hI.pos hi0
      obtain ⟨hq1, hq2, hq3⟩ := hI.last hi0
      have hp3 : out.getD ((out.length : Int) - 1).toNat default = (Ws.ph l wd least i).2.1 := by rw [show ((out.length : Int) - 1).toNat = out.length - 1 by omega]; exact (Ws.getd_last (by omega)).symm.trans (hp2 (by omega))
      refine c_skip ?_
      refine q_then ?_
      refine c_seq ?_
      refine c_region ?_
      refine o_pure (p_move (v := .slice aout out.length cout) rfl) rfl rfl rfl ?_
      refine o_pure (p_move (v := .slice aout out.length cout) rfl) rfl rfl rfl ?_
      refine o_pure (p_len_slice (len := out.length) rfl rfl Try.underlying45) rfl rfl rfl ?_
      refine o_pure (p_subb (p := (out.length : Int)) (q := 1) rfl rfl (by omega)) rfl rfl rfl ?_
      refine o_pure (p_indexAddr (L := out) (T := tInt) (i := ((out.length : Int) - 1)) rfl rfl (rd_own (i := 0) rfl) Try.underlying45 sz3 (by omega) (by omega)) rfl rfl rfl ?_
      refine o_pure (p_loadE1 (i := ((out.length : Int) - 1).toNat) (T := tInt) (L := out) (v := .int .i64 (out.getD (((out.length : Int) - 1).toNat) default)) rfl (rd_own (i := 0) rfl) (by first | assumption | omega) sh3 (congrArg tInt.enc (getd_at (by first | assumption | omega) default))) rfl rfl rfl ?_
      refine o_pure (p_assign (v := .int .i64 (out.getD (((out.length : Int) - 1).toNat) default)) rfl) rfl rfl rfl ?_
      refine o_nil ?_
      refine q_then ?_
      refine c_seq ?_
      refine c_seq ?_
      refine c_region ?_
      refine o_pure (p_move (v := .int .i64 (i : Int)) rfl) rfl rfl rfl ?_
      refine o_pure (p_move (v := .int .i64 (out.getD (((out.length : Int) - 1).toNat) default)) rfl) rfl rfl rfl ?_
      refine o_pure (p_subb (p := (i : Int)) (q := (out.getD (((out.length : Int) - 1).toNat) default)) rfl rfl (by omega)) rfl rfl rfl ?_
      refine o_pure (p_move (v := .int .i64 wd) rfl) rfl rfl rfl ?_
      refine o_pure (p_lt (p := ((i : Int) - (out.getD (((out.length : Int) - 1).toNat) default))) (q := wd) rfl rfl) rfl rfl rfl ?_
      refine o_nil ?_
      refine q_then ?_
      refine c_cond (b := decide (((i : Int) - (out.getD (((out.length : Int) - 1).toNat) default)) < wd)) rfl (fun hc11 => ?_) (fun hc11 => ?_)
      · simp only [decide_eq_true_eq] at hc11
        have hnear := hc11
        refine c_exit ?_
        refine q_then_exit (q_block_exit (q_then ?_))
        refine c_region ?_
        refine o_pure (p_move (v := .int .i64 (i : Int)) rfl) rfl rfl rfl ?_
        refine o_pure (p_addb (p := (i : Int)) (q := 1) rfl rfl (by omega)) rfl rfl rfl ?_
        refine o_pure (p_assign (v := .int .i64 ((i : Int) + 1)) rfl) rfl rfl rfl ?_
        refine o_nil ?_
        refine q_round hK2 (out, aout, cout, Sout, i + 1) ?_ ?_ ?_ ?_
        · clear hK2
          first | exact Ws.PR.add0 hP (by omega) (by omega) | exact Ws.PR.near hP (by omega) (by omega) hp3 hnear | exact Ws.PR.take2 hP (by omega) (by omega) hp3 (by omega) hcm.1 (by omega) hless | exact Ws.PR.skip2 hP (by omega) (by omega) hp3 hcm.1 (by omega) hless
        · (try dsimp only); omega
        · exact Sub.cons rfl (Sub.cons rfl (Sub.cons rfl (Sub.cons rfl (Sub.cons rfl (Sub.nil _)))))
        · exact fun _ hw => HeapIs.pick hw [0, 1] (by decide) rfl
      · simp only [decide_eq_false_iff_not, Int.not_lt] at hc11
        have hfar := hc11
        refine c_skip ?_
        refine q_then ?_
        refine c_seq ?_
        refine c_region ?_
        refine o_pure (p_move (v := .slice al l.length cl) rfl) rfl rfl rfl ?_
        refine o_pure (p_move (v := .int .i64 (out.getD (((out.length : Int) - 1).toNat) default)) rfl) rfl rfl rfl ?_
        refine o_pure (p_move (v := .int .i64 wd) rfl) rfl rfl rfl ?_
        refine o_callM rfl (workSet_ok l al cl (out.getD (((out.length : Int) - 1).toNat) default) wd (by first | assumption | exact ⟨by omega, hwb, h200, hk0⟩)) hf45 (fun w hw => (rd_base (i := 1) rfl hl) w hw) rfl (fun _ _ _ _ ha hA => SlO.agree ha hA) ?_
        rintro ⟨a14, c15⟩ S12
        refine o_know (fun w hw => own_len (i := 0) (T := tInt) hw rfl) (fun hlr16 => ?_)
        refine o_pure (p_move (v := .slice al l.length cl) rfl) rfl rfl rfl ?_
        refine o_pure (p_move (v := .int .i64 (i : Int)) rfl) rfl rfl rfl ?_
        refine o_pure (p_move (v := .int .i64 wd) rfl) rfl rfl rfl ?_
        refine o_callM rfl (workSet_ok l al cl (i : Int) wd (by first | assumption | exact ⟨by omega, hwb, h200, hk0⟩)) hf45 (fun w hw => (rd_base (i := 2) rfl hl) w hw) rfl (fun _ _ _ _ ha hA => SlO.agree ha hA) ?_
        rintro ⟨a19, c20⟩ S17
        refine o_know (fun w hw => own_len (i := 0) (T := tInt) hw rfl) (fun hlr21 => ?_)
        refine o_pure (p_assign (v := .slice a14 (Ws.set l wd (out.getD (((out.length : Int) - 1).toNat) default).toNat).length c15) rfl) rfl rfl rfl ?_
        refine o_pure (p_assign (v := .slice a19 (Ws.set l wd (i : Int).toNat).length c20) rfl) rfl rfl rfl ?_
        refine o_nil ?_
        refine q_then ?_
        refine c_seq ?_
        refine c_region ?_
        refine o_pure (p_assign (v := .int .i64 0) rfl) rfl rfl rfl ?_
        refine o_nil ?_
        refine q_then ?_
        refine c_seq ?_
        refine c_seq ?_
        refine c_region ?_
        refine o_pure (p_assign (v := .int .i64 0) rfl) rfl rfl rfl ?_
        refine o_nil ?_
        refine q_then ?_
        refine c_block ?_
        refine c_loop (St := Int × Nat)
          (fun ⟨n, k⟩ => [(0, .slice al l.length cl), (1, .int .i64 wd), (2, .int .i64 least), (7, .slice aout out.length cout), (8, .int .i64 (i : Int)), (10, .slice a14 (Ws.set l wd (out.getD (((out.length : Int) - 1).toNat) default).toNat).length c15), (11, .slice a19 (Ws.set l wd (i : Int).toNat).length c20), (12, .int .i64 n), (13, .int .i64 (k : Int))])
          (fun ⟨n, k⟩ => [own tInt S17 a19 c20 (Ws.set l wd (i : Int).toNat), own tInt S12 a14 c15 (Ws.set l wd (out.getD (((out.length : Int) - 1).toNat) default).toNat), own tInt Sout aout cout out, base w0])
          (fun ⟨n, k⟩ => n = (((Ws.set l wd (out.getD ((out.length : Int) - 1).toNat default).toNat).take k).countP (fun x => decide (x ∈ Ws.set l wd (i : Int).toNat)) : Int) ∧ k ≤ (Ws.set l wd (out.getD ((out.length : Int) - 1).toNat default).toNat).length ∧ 0 ≤ n ∧ n ≤ k ∧ (Ws.set l wd (out.getD ((out.length : Int) - 1).toNat default).toNat).length ≤ 200)
          (fun ⟨n, k⟩ => (Ws.set l wd (out.getD ((out.length : Int) - 1).toNat default).toNat).length - k)
          (0, 0) ?_ (Sub.cons rfl (Sub.cons rfl (Sub.cons rfl (Sub.cons rfl (Sub.cons rfl (Sub.cons rfl (Sub.cons rfl (Sub.cons rfl (Sub.cons rfl (Sub.nil _)))))))))) (fun _ hw => hw) ?_
        · exact ⟨by simp, Nat.zero_le _, Int.le_refl _, Int.le_refl _, by have := Ws.set_len (l := l) (w := wd) hwb.1 (i := (out.getD ((out.length : Int) - 1).toNat default).toNat) (by omega); omega⟩
        rintro ⟨n, k⟩ hI K hK22
        obtain ⟨hI1, hI2, hI3, hI4, hI5⟩ := id hI
        show SC _ _ Try.prog 66 w0 _ _ [(0, .slice al l.length cl), (1, .int .i64 wd), (2, .int .i64 least), (7, .slice aout out.length cout), (8, .int .i64 (i : Int)), (10, .slice a14 (Ws.set l wd (out.getD (((out.length : Int) - 1).toNat) default).toNat).length c15), (11, .slice a19 (Ws.set l wd (i : Int).toNat).length c20), (12, .int .i64 n), (13, .int .i64 (k : Int))] [own tInt S17 a19 c20 (Ws.set l wd (i : Int).toNat), own tInt S12 a14 c15 (Ws.set l wd (out.getD (((out.length : Int) - 1).toNat) default).toNat), own tInt Sout aout cout out, base w0]
        refine c_seq ?_
        refine c_seq ?_
        refine c_region ?_
        refine o_pure (p_move (v := .int .i64 (k : Int)) rfl) rfl rfl rfl ?_
        refine o_pure (p_move (v := .slice a14 (Ws.set l wd (out.getD (((out.length : Int) - 1).toNat) default).toNat).length c15) rfl) rfl rfl rfl ?_
        refine o_pure (p_len_slice (len := (Ws.set l wd (out.getD (((out.length : Int) - 1).toNat) default).toNat).length) rfl rfl Try.underlying45) rfl rfl rfl ?_
        refine o_pure (p_lt (p := (k : Int)) (q := ((Ws.set l wd (out.getD (((out.length : Int) - 1).toNat) default).toNat).length : Int)) rfl rfl) rfl rfl rfl ?_
        refine o_nil ?_
        refine q_then ?_
        refine c_cond (b := decide ((k : Int) < ((Ws.set l wd (out.getD (((out.length : Int) - 1).toNat) default).toNat).length : Int))) rfl (fun hc23 => ?_) (fun hc23 => ?_)
        · simp only [decide_eq_true_eq] at hc23
          refine c_skip ?_
          refine q_then ?_
          refine c_seq ?_
          refine c_block ?_
          refine c_seq ?_
          refine c_region ?_
          refine o_pure (p_move (v := .slice a19 (Ws.set l wd (i : Int).toNat).length c20) rfl) rfl rfl rfl ?_
          refine o_pure (p_move (v := .slice a14 (Ws.set l wd (out.getD (((out.length : Int) - 1).toNat) default).toNat).length c15) rfl) rfl rfl rfl ?_
          refine o_pure (p_move (v := .int .i64 (k : Int)) rfl) rfl rfl rfl ?_
          refine o_pure (p_indexAddr (L := (Ws.set l wd (out.getD (((out.length : Int) - 1).toNat) default).toNat)) (T := tInt) (i := (k : Int)) rfl rfl (rd_own (i := 1) rfl) Try.underlying45 sz3 (by omega) (by omega)) rfl rfl rfl ?_
          refine o_pure (p_loadE1 (i := k) (T := tInt) (L := (Ws.set l wd (out.getD (((out.length : Int) - 1).toNat) default).toNat)) (v := .int .i64 ((Ws.set l wd (out.getD (((out.length : Int) - 1).toNat) default).toNat).getD k default)) rfl (rd_own (i := 1) rfl) (by first | assumption | omega) sh3 (congrArg tInt.enc (getd_at (by first | assumption | omega) default))) rfl rfl rfl ?_
          refine o_call0 (v := .bool (Ref.hasInt (Ws.set l wd (i : Int).toNat) ((Ws.set l wd (out.getD (((out.length : Int) - 1).toNat) default).toNat).getD k default))) rfl (hasInt_ok (Ws.set l wd (i : Int).toNat) a19 c20 ((Ws.set l wd (out.getD (((out.length : Int) - 1).toNat) default).toNat).getD k default)) hf34 (fun w hw => (rd_own (i := 0) rfl) w hw) rfl ?_
          refine o_nil ?_
          refine q_then ?_
          refine c_cond (b := (Ref.hasInt (Ws.set l wd (i : Int).toNat) ((Ws.set l wd (out.getD (((out.length : Int) - 1).toNat) default).toNat).getD k default))) rfl (fun hc24 => ?_) (fun hc24 => ?_)
          · skip
            refine c_region ?_
            refine o_pure (p_move (v := .int .i64 n) rfl) rfl rfl rfl ?_
            refine o_pure (p_addb (p := n) (q := 1) rfl rfl (by omega)) rfl rfl rfl ?_
            refine o_pure (p_assign (v := .int .i64 (n + 1)) rfl) rfl rfl rfl ?_
            refine o_nil ?_
            refine q_block_normal (q_then ?_)
            refine c_region ?_
            refine o_pure (p_move (v := .int .i64 (k : Int)) rfl) rfl rfl rfl ?_
            refine o_pure (p_addb (p := (k : Int)) (q := 1) rfl rfl (by omega)) rfl rfl rfl ?_
            refine o_pure (p_assign (v := .int .i64 ((k : Int) + 1)) rfl) rfl rfl rfl ?_
            refine o_nil ?_
            refine q_round hK22 ((n + 1), k + 1) ?_ ?_ ?_ ?_
            · clear hK22
              first | exact ⟨Ws.cnt_hit2 (by omega) hI1 (by assumption), by omega, by omega, by omega, hI5⟩ | exact ⟨Ws.cnt_miss2 (by omega) hI1 (by assumption), by omega, by omega, by omega, hI5⟩
            · (try dsimp only); omega
            · exact Sub.cons rfl (Sub.cons rfl (Sub.cons rfl (Sub.cons rfl (Sub.cons rfl (Sub.cons rfl (Sub.cons rfl (Sub.cons rfl (Sub.cons rfl (Sub.nil _)))))))))
            · exact fun _ hw => HeapIs.pick hw [0, 1, 2, 3] (by decide) rfl
          · skip
            refine c_skip ?_
            refine q_block_normal (q_then ?_)
            refine c_region ?_
            refine o_pure (p_move (v := .int .i64 (k : Int)) rfl) rfl rfl rfl ?_
            refine o_pure (p_addb (p := (k : Int)) (q := 1) rfl rfl (by omega)) rfl rfl rfl ?_
            refine o_pure (p_assign (v := .int .i64 ((k : Int) + 1)) rfl) rfl rfl rfl ?_
            refine o_nil ?_
            refine q_round hK22 (n, k + 1) ?_ ?_ ?_ ?_
            · clear hK22
              first | exact ⟨Ws.cnt_hit2 (by omega) hI1 (by assumption), by omega, by omega, by omega, hI5⟩ | exact ⟨Ws.cnt_miss2 (by omega) hI1 (by assumption), by omega, by omega, by omega, hI5⟩
            · (try dsimp only); omega
            · exact Sub.cons rfl (Sub.cons rfl (Sub.cons rfl (Sub.cons rfl (Sub.cons rfl (Sub.cons rfl (Sub.cons rfl (Sub.cons rfl (Sub.cons rfl (Sub.nil _)))))))))
            · exact fun _ hw => HeapIs.pick hw [0, 1, 2, 3] (by decide) rfl
        · simp only [decide_eq_false_iff_not, Int.not_lt] at hc23
          refine c_exit ?_
          refine q_then_exit (q_then_exit (q_block_exit (q_then ?_)))
          refine c_seq ?_
          refine c_region ?_
          refine o_pure (p_move (v := .int .i64 n) rfl) rfl rfl rfl ?_
          refine o_pure (p_move (v := .int .i64 least) rfl) rfl rfl rfl ?_
          refine o_pure (p_lt (p := n) (q := least) rfl rfl) rfl rfl rfl ?_
          refine o_nil ?_
          refine q_then ?_
          refine c_cond (b := decide (n < least)) rfl (fun hc25 => ?_) (fun hc25 => ?_)
          · simp only [decide_eq_true_eq] at hc25
            have hcm := hI
            have hless := hc25
            refine c_region ?_
            refine o_pure (p_move (v := .slice aout out.length cout) rfl) rfl rfl rfl ?_
            refine o_pure (p_move (v := .int .i64 (i : Int)) rfl) rfl rfl rfl ?_
            refine o_buildSlice (m := 1) (T := tInt) (L := [(i : Int)]) (vs := [.int .i64 (i : Int)]) rfl rfl rfl rfl Try.underlying45 sz3 (by decide) ze3 rfl (by decide) rfl (fun S26 a27 => ?_)
            refine o_append (i := 3) (L := out) (M := [(i : Int)]) (T := tInt) rfl rfl rfl (rd_own (i := 0) rfl) Try.underlying45 Try.underlying45 (by intro k h; cases h) el3 (by intro z; simp [tInt, one1]) (by decide) (by first | omega | (simp only [List.length_cons, List.length_nil]; omega) | (simp only [List.length_append, List.length_cons, List.length_nil, List.length_take, List.length_drop]; omega)) rfl (fun a29 c30 S31 => ?_)
            refine o_pure (p_assign (v := .slice a29 (out ++ [(i : Int)]).length c30) rfl) rfl rfl rfl ?_
            refine o_nil ?_
            refine q_block_normal (q_then ?_)
            refine c_region ?_
            refine o_pure (p_move (v := .int .i64 (i : Int)) rfl) rfl rfl rfl ?_
            refine o_pure (p_addb (p := (i : Int)) (q := 1) rfl rfl (by omega)) rfl rfl rfl ?_
            refine o_pure (p_assign (v := .int .i64 ((i : Int) + 1)) rfl) rfl rfl rfl ?_
            refine o_nil ?_
            refine q_round hK2 ((out ++ [(i : Int)]), a29, c30, S31, i + 1) ?_ ?_ ?_ ?_
            · clear hK2
              first | exact Ws.PR.add0 hP (by omega) (by omega) | exact Ws.PR.near hP (by omega) (by omega) hp3 hnear | exact Ws.PR.take2 hP (by omega) (by omega) hp3 (by omega) hcm.1 (by omega) hless | exact Ws.PR.skip2 hP (by omega) (by omega) hp3 hcm.1 (by omega) hless
            · (try dsimp only); omega
            · exact Sub.cons rfl (Sub.cons rfl (Sub.cons rfl (Sub.cons rfl (Sub.cons rfl (Sub.nil _)))))
            · exact fun _ hw => HeapIs.pick hw [3, 4] (by decide) rfl
          · simp only [decide_eq_false_iff_not, Int.not_lt] at hc25
            have hcm := hI
            have hless := hc25
            refine c_skip ?_
            refine q_block_normal (q_then ?_)
            refine c_region ?_
            refine o_pure (p_move (v := .int .i64 (i : Int)) rfl) rfl rfl rfl ?_
            refine o_pure (p_addb (p := (i : Int)) (q := 1) rfl rfl (by omega)) rfl rfl rfl ?_
            refine o_pure (p_assign (v := .int .i64 ((i : Int) + 1)) rfl) rfl rfl rfl ?_
            refine o_nil ?_
            refine q_round hK2 (out, aout, cout, Sout, i + 1) ?_ ?_ ?_ ?_
            · clear hK2
              first | exact Ws.PR.add0 hP (by omega) (by omega) | exact Ws.PR.near hP (by omega) (by omega) hp3 hnear | exact Ws.PR.take2 hP (by omega) (by omega) hp3 (by omega) hcm.1 (by omega) hless | exact Ws.PR.skip2 hP (by omega) (by omega) hp3 hcm.1 (by omega) hless
            · (try dsimp only); omega
            · exact Sub.cons rfl (Sub.cons rfl (Sub.cons rfl (Sub.cons rfl (Sub.cons rfl (Sub.nil _)))))
            · exact fun _ hw => HeapIs.pick hw [2, 3] (by decide) rfl
  · simp only [decide_eq_false_iff_not, Int.not_lt] at hc3
    refine c_exit ?_
    refine q_then_exit (q_then_exit (q_block_exit (q_then ?_)))
    refine c_seq ?_
    refine c_region ?_
    refine o_pure (p_move (v := .slice aout out.length cout) rfl) rfl rfl rfl ?_
    refine o_pure (p_assign (v := .slice aout out.length cout) rfl) rfl rfl rfl ?_
    refine o_nil ?_
    refine q_then ?_
    refine c_ret ?_
    have hr0 : (out : List Int) = ((Ws.ph l wd least l.length).1) := by
      (have hle := hI.le; rw [hI.eq, show i = l.length by omega])
    refine q_endM (p := (aout, cout)) Sout (rt1 rfl (r_tmp rfl)) (i := 1) rfl ?_ ?_ ?_
    · exact (by have hcc := congrArg (fun (y0 : List Int) => (.slice aout y0.length cout : Value)) hr0; exact hcc)
    · exact fun w hw => hw.above (i := 1) (j := 0) (by decide) rfl rfl
    · intro w hw; exact Eq.mp (congrArg (fun y => SlO tInt _ w aout cout y) hr0) ((hw.at (i := 0) rfl).here)
end Go.Proofs.Ythecfjipaepcgaa
