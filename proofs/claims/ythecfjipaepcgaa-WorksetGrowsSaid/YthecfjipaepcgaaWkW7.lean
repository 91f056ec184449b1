/- The walks, printed by a program from the translation and a specification. -/
import Derived.Test.YthecfjipaepcgaaWkF
import Derived.Test.YthecfjipaepcgaaWsLaw5
import Derived.Test.YthecfjipaepcgaaExLaw
import Derived.Test.YthecfjipaepcgaaWkW6
namespace Go.Proofs.Ythecfjipaepcgaa
open Go.Sx Go.RowKit
set_option maxHeartbeats 8000000 in
set_option maxRecDepth 100000 in
theorem worksetGrows_ok (l : List Int) (al : Option Addr) (cl : Nat) (at_ : Int) (a : Int) (b : Int) : Fn0 Try.prog 11 [.slice al l.length cl, .int .i64 at_, .int .i64 a, .int .i64 b] (fun w => Rd tInt w al cl l) (.bool true) := by
  refine fn0 (nt := 110) (F0 := [(0, .slice al l.length cl), (1, .int .i64 at_), (2, .int .i64 a), (3, .int .i64 b)]) Try.func11 rfl Try.ntmps11 rfl rfl (fun w0 hpre => ?_)
  have hl := hpre
  have hlhl := hl.2.1
  refine c_seq ?_
  refine c_region ?_
  refine o_pure (p_assign (v := .bool false) rfl) rfl rfl rfl ?_
  refine o_nil ?_
  refine q_then ?_
  refine c_seq ?_
  refine c_region ?_
  refine o_pure (p_move (v := .slice al l.length cl) rfl) rfl rfl rfl ?_
  refine o_pure (p_move (v := .int .i64 at_) rfl) rfl rfl rfl ?_
  refine o_pure (p_move (v := .int .i64 a) rfl) rfl rfl rfl ?_
  refine o_callM rfl (wset_ok l al cl at_ a) hf40 (fun w hw => (rd_base (i := 0) rfl hl) w hw) rfl (fun _ _ _ _ ha hA => SlO.agree ha hA) ?_
  rintro ⟨a3, c4⟩ S1
  refine o_know (fun w hw => own_len (i := 0) (T := tInt) hw rfl) (fun hlr5 => ?_)
  refine o_pure (p_move (v := .tuple #[.slice a3 (Ws.setR l at_ a).length c4, .int .i64 (Ws.setErr l at_ a)]) rfl) rfl rfl rfl ?_
  refine o_pure (p_extract (vs := [.slice a3 (Ws.setR l at_ a).length c4, .int .i64 (Ws.setErr l at_ a)]) (v := .slice a3 (Ws.setR l at_ a).length c4) rfl rfl) rfl rfl rfl ?_
  refine o_pure (p_extract (vs := [.slice a3 (Ws.setR l at_ a).length c4, .int .i64 (Ws.setErr l at_ a)]) (v := .int .i64 (Ws.setErr l at_ a)) rfl rfl) rfl rfl rfl ?_
  refine o_pure (p_assign (v := .slice a3 (Ws.setR l at_ a).length c4) rfl) rfl rfl rfl ?_
  refine o_pure (p_assign (v := .int .i64 (Ws.setErr l at_ a)) rfl) rfl rfl rfl ?_
  refine o_nil ?_
  refine q_then ?_
  refine c_seq ?_
  refine c_region ?_
  refine o_pure (p_move (v := .slice al l.length cl) rfl) rfl rfl rfl ?_
  refine o_pure (p_move (v := .int .i64 at_) rfl) rfl rfl rfl ?_
  refine o_pure (p_move (v := .int .i64 b) rfl) rfl rfl rfl ?_
  refine o_callM rfl (wset_ok l al cl at_ b) hf40 (fun w hw => (rd_base (i := 1) rfl hl) w hw) rfl (fun _ _ _ _ ha hA => SlO.agree ha hA) ?_
  rintro ⟨a8, c9⟩ S6
  refine o_know (fun w hw => own_len (i := 0) (T := tInt) hw rfl) (fun hlr10 => ?_)
  refine o_pure (p_move (v := .tuple #[.slice a8 (Ws.setR l at_ b).length c9, .int .i64 (Ws.setErr l at_ b)]) rfl) rfl rfl rfl ?_
  refine o_pure (p_extract (vs := [.slice a8 (Ws.setR l at_ b).length c9, .int .i64 (Ws.setErr l at_ b)]) (v := .slice a8 (Ws.setR l at_ b).length c9) rfl rfl) rfl rfl rfl ?_
  refine o_pure (p_extract (vs := [.slice a8 (Ws.setR l at_ b).length c9, .int .i64 (Ws.setErr l at_ b)]) (v := .int .i64 (Ws.setErr l at_ b)) rfl rfl) rfl rfl rfl ?_
  refine o_pure (p_assign (v := .slice a8 (Ws.setR l at_ b).length c9) rfl) rfl rfl rfl ?_
  refine o_pure (p_assign (v := .int .i64 (Ws.setErr l at_ b)) rfl) rfl rfl rfl ?_
  refine o_nil ?_
  refine q_then ?_
  refine c_seq ?_
  refine c_region ?_
  refine o_pure (p_move (v := .slice al l.length cl) rfl) rfl rfl rfl ?_
  refine o_pure (p_move (v := .int .i64 a) rfl) rfl rfl rfl ?_
  refine o_call0 (v := .tuple #[.int .i64 (Ws.faults l a), .int .i64 (Ws.check l a)]) rfl (wfaults_ok l al cl a) hf42 (fun w hw => (rd_base (i := 2) rfl hl) w hw) rfl ?_
  refine o_pure (p_move (v := .tuple #[.int .i64 (Ws.faults l a), .int .i64 (Ws.check l a)]) rfl) rfl rfl rfl ?_
  refine o_pure (p_extract (vs := [.int .i64 (Ws.faults l a), .int .i64 (Ws.check l a)]) (v := .int .i64 (Ws.faults l a)) rfl rfl) rfl rfl rfl ?_
  refine o_pure (p_extract (vs := [.int .i64 (Ws.faults l a), .int .i64 (Ws.check l a)]) (v := .int .i64 (Ws.check l a)) rfl rfl) rfl rfl rfl ?_
  refine o_pure (p_assign (v := .int .i64 (Ws.faults l a)) rfl) rfl rfl rfl ?_
  refine o_pure (p_assign (v := .int .i64 (Ws.check l a)) rfl) rfl rfl rfl ?_
  refine o_nil ?_
  refine q_then ?_
  refine c_seq ?_
  refine c_region ?_
  refine o_pure (p_move (v := .slice al l.length cl) rfl) rfl rfl rfl ?_
  refine o_pure (p_move (v := .int .i64 b) rfl) rfl rfl rfl ?_
  refine o_call0 (v := .tuple #[.int .i64 (Ws.faults l b), .int .i64 (Ws.check l b)]) rfl (wfaults_ok l al cl b) hf42 (fun w hw => (rd_base (i := 2) rfl hl) w hw) rfl ?_
  refine o_pure (p_move (v := .tuple #[.int .i64 (Ws.faults l b), .int .i64 (Ws.check l b)]) rfl) rfl rfl rfl ?_
  refine o_pure (p_extract (vs := [.int .i64 (Ws.faults l b), .int .i64 (Ws.check l b)]) (v := .int .i64 (Ws.faults l b)) rfl rfl) rfl rfl rfl ?_
  refine o_pure (p_extract (vs := [.int .i64 (Ws.faults l b), .int .i64 (Ws.check l b)]) (v := .int .i64 (Ws.check l b)) rfl rfl) rfl rfl rfl ?_
  refine o_pure (p_assign (v := .int .i64 (Ws.faults l b)) rfl) rfl rfl rfl ?_
  refine o_pure (p_assign (v := .int .i64 (Ws.check l b)) rfl) rfl rfl rfl ?_
  refine o_nil ?_
  refine q_then ?_
  refine c_seq ?_
  refine c_seq ?_
  refine c_region ?_
  refine o_call0 (v := .bool true) rfl (workBegun_ok ) hf48 (fun _ _ => trivial) rfl ?_
  refine o_pure (p_not (b := true) rfl) rfl rfl rfl ?_
  refine o_nil ?_
  refine q_then ?_
  refine c_false rfl ?_
  refine c_skip ?_
  refine q_then ?_
  refine c_seq ?_
  refine c_seq ?_
  refine c_region ?_
  refine o_pure (p_move (v := .int .i64 (Ws.check l a)) rfl) rfl rfl rfl ?_
  refine o_pure (p_ne (p := (Ws.check l a)) (q := 0) rfl rfl) rfl rfl rfl ?_
  refine o_pure (p_move (v := .bool ((Ws.check l a) != 0)) rfl) rfl rfl rfl ?_
  refine o_or (p := 51) 3 ((Ws.check l b) != 0) ?_ ?_ ?_
  · intro hb11 hk
    simp only [bne_eq_false_iff_eq] at hb11
    refine o_unguard 48 rfl rfl ?_
    refine o_pure (p_move (v := .int .i64 (Ws.check l b)) rfl) rfl rfl rfl ?_
    refine o_unguard 48 rfl rfl ?_
    refine o_pure (p_ne (p := (Ws.check l b)) (q := 0) rfl rfl) rfl rfl rfl ?_
    refine o_pure (p_pick_false (v := .bool ((Ws.check l b) != 0)) rfl rfl) rfl rfl rfl ?_
    exact o_sub (Sub.cons rfl (Sub.skip rfl (Sub.skip rfl (Sub.skip rfl (Sub.skip rfl (Sub.refl _)))))) hk
  · intro hb11 hk
    refine o_guard_no rfl 48 rfl rfl rfl rfl rfl ?_
    refine o_guard_no rfl 48 rfl rfl rfl rfl rfl ?_
    refine o_pure (p_pick_true (u := .bool true) rfl rfl) rfl rfl rfl ?_
    exact o_sub (Sub.cons rfl (Sub.skip rfl (Sub.skip rfl (Sub.skip rfl (Sub.skip rfl (Sub.refl _)))))) hk
  refine o_pure (p_move (v := .bool (((Ws.check l a) != 0) || ((Ws.check l b) != 0))) rfl) rfl rfl rfl ?_
  refine o_or (p := 56) 4 (decide (b < a)) ?_ ?_ ?_
  · intro hb12 hk
    simp only [Bool.or_eq_false_iff, bne_eq_false_iff_eq] at hb12
    refine o_unguard 52 rfl rfl ?_
    refine o_pure (p_move (v := .int .i64 a) rfl) rfl rfl rfl ?_
    refine o_unguard 52 rfl rfl ?_
    refine o_pure (p_move (v := .int .i64 b) rfl) rfl rfl rfl ?_
    refine o_unguard 52 rfl rfl ?_
    refine o_pure (p_gt (p := a) (q := b) rfl rfl) rfl rfl rfl ?_
    refine o_pure (p_pick_false (v := .bool (decide (b < a))) rfl rfl) rfl rfl rfl ?_
    exact o_sub (Sub.cons rfl (Sub.skip rfl (Sub.skip rfl (Sub.skip rfl (Sub.skip rfl (Sub.skip rfl (Sub.refl _))))))) hk
  · intro hb12 hk
    refine o_guard_no rfl 52 rfl rfl rfl rfl rfl ?_
    refine o_guard_no rfl 52 rfl rfl rfl rfl rfl ?_
    refine o_guard_no rfl 52 rfl rfl rfl rfl rfl ?_
    refine o_pure (p_pick_true (u := .bool true) rfl rfl) rfl rfl rfl ?_
    exact o_sub (Sub.cons rfl (Sub.skip rfl (Sub.skip rfl (Sub.skip rfl (Sub.skip rfl (Sub.skip rfl (Sub.refl _))))))) hk
  refine o_nil ?_
  refine q_then ?_
  refine c_cond (b := ((((Ws.check l a) != 0) || ((Ws.check l b) != 0)) || decide (b < a))) rfl (fun hc13 => ?_) (fun hc13 => ?_)
  · simp only [Bool.or_eq_true, bne_iff_ne, ne_eq, decide_eq_true_eq] at hc13
    refine c_seq ?_
    refine c_region ?_
    refine o_pure (p_assign (v := .bool true) rfl) rfl rfl rfl ?_
    refine o_nil ?_
    refine q_then ?_
    refine c_ret ?_
    refine q_then_ret ?_
    refine q_end0 (v := .bool true) (rt1 rfl (r_tmp rfl)) (i := 2) rfl ?_
    exact rfl
  · simp only [Bool.or_eq_false_iff, bne_eq_false_iff_eq, decide_eq_false_iff_not, Int.not_lt] at hc13
    obtain ⟨⟨z1, z2⟩, z3⟩ := hc13
    have z4 := Ws.grows z1 z2 (by omega)
    refine c_skip ?_
    refine q_then ?_
    refine c_seq ?_
    refine c_seq ?_
    refine c_region ?_
    refine o_pure (p_move (v := .int .i64 (Ws.faults l b)) rfl) rfl rfl rfl ?_
    refine o_pure (p_move (v := .int .i64 (Ws.faults l a)) rfl) rfl rfl rfl ?_
    refine o_pure (p_gt (p := (Ws.faults l b)) (q := (Ws.faults l a)) rfl rfl) rfl rfl rfl ?_
    refine o_nil ?_
    refine q_then ?_
    refine c_cond (b := decide ((Ws.faults l a) < (Ws.faults l b))) rfl (fun hc14 => ?_) (fun hc14 => ?_)
    · simp only [decide_eq_true_eq] at hc14
      exfalso; omega
    · simp only [decide_eq_false_iff_not, Int.not_lt] at hc14
      refine c_skip ?_
      refine q_then ?_
      refine c_seq ?_
      refine c_seq ?_
      refine c_region ?_
      refine o_pure (p_move (v := .int .i64 (Ws.setErr l at_ a)) rfl) rfl rfl rfl ?_
      refine o_pure (p_ne (p := (Ws.setErr l at_ a)) (q := 0) rfl rfl) rfl rfl rfl ?_
      refine o_pure (p_move (v := .bool ((Ws.setErr l at_ a) != 0)) rfl) rfl rfl rfl ?_
      refine o_or (p := 65) 3 ((Ws.setErr l at_ b) != 0) ?_ ?_ ?_
      · intro hb15 hk
        simp only [bne_eq_false_iff_eq] at hb15
        refine o_unguard 62 rfl rfl ?_
        refine o_pure (p_move (v := .int .i64 (Ws.setErr l at_ b)) rfl) rfl rfl rfl ?_
        refine o_unguard 62 rfl rfl ?_
        refine o_pure (p_ne (p := (Ws.setErr l at_ b)) (q := 0) rfl rfl) rfl rfl rfl ?_
        refine o_pure (p_pick_false (v := .bool ((Ws.setErr l at_ b) != 0)) rfl rfl) rfl rfl rfl ?_
        exact o_sub (Sub.cons rfl (Sub.skip rfl (Sub.skip rfl (Sub.skip rfl (Sub.skip rfl (Sub.refl _)))))) hk
      · intro hb15 hk
        refine o_guard_no rfl 62 rfl rfl rfl rfl rfl ?_
        refine o_guard_no rfl 62 rfl rfl rfl rfl rfl ?_
        refine o_pure (p_pick_true (u := .bool true) rfl rfl) rfl rfl rfl ?_
        exact o_sub (Sub.cons rfl (Sub.skip rfl (Sub.skip rfl (Sub.skip rfl (Sub.skip rfl (Sub.refl _)))))) hk
      refine o_nil ?_
      refine q_then ?_
      refine c_cond (b := (((Ws.setErr l at_ a) != 0) || ((Ws.setErr l at_ b) != 0))) rfl (fun hc16 => ?_) (fun hc16 => ?_)
      · simp only [Bool.or_eq_true, bne_iff_ne, ne_eq] at hc16
        have hre := Ws.same_err z1 z2 at_
        refine c_seq ?_
        refine c_region ?_
        refine o_pure (p_move (v := .int .i64 (Ws.setErr l at_ a)) rfl) rfl rfl rfl ?_
        refine o_pure (p_move (v := .int .i64 (Ws.setErr l at_ b)) rfl) rfl rfl rfl ?_
        refine o_pure (p_eq (p := (Ws.setErr l at_ a)) (q := (Ws.setErr l at_ b)) rfl rfl) rfl rfl rfl ?_
        refine o_pure (p_assign (v := .bool ((Ws.setErr l at_ a) == (Ws.setErr l at_ b))) rfl) rfl rfl rfl ?_
        refine o_nil ?_
        refine q_then ?_
        refine c_ret ?_
        refine q_then_ret ?_
        have hr0 : (((Ws.setErr l at_ a) == (Ws.setErr l at_ b)) : Bool) = true := by
          first | rfl | (rw [hre]; exact beq_self_eq_true _) | (simp only [q4, Bool.and_true, Bool.and_eq_true, decide_eq_true_eq]; omega)
        refine q_end0 (v := .bool ((Ws.setErr l at_ a) == (Ws.setErr l at_ b))) (rt1 rfl (r_tmp rfl)) (i := 2) rfl ?_
        exact (by have hcc := congrArg (fun (y0 : Bool) => (.bool y0 : Value)) hr0; exact hcc)
      · simp only [Bool.or_eq_false_iff, bne_eq_false_iff_eq] at hc16
        obtain ⟨y1, y2⟩ := hc16
        have yb := (Ws.err_ok y1).2.1
        have hat0 : at_.toNat < l.length := by omega
        obtain ⟨q1, q2, q3, q4, q5⟩ := Ws.grows_law y1 y2 (by omega) hat0
        refine c_skip ?_
        refine q_then ?_
        refine c_seq ?_
        refine c_seq ?_
        refine c_region ?_
        refine o_pure (p_assign (v := .int .i64 0) rfl) rfl rfl rfl ?_
        refine o_nil ?_
        refine q_then ?_
        refine c_block ?_
        refine c_loop (St := Nat)
          (fun i => [(0, .slice al l.length cl), (1, .int .i64 at_), (2, .int .i64 a), (3, .int .i64 b), (9, .slice a3 (Ws.setR l at_ a).length c4), (11, .slice a8 (Ws.setR l at_ b).length c9), (17, .int .i64 (i : Int))])
          (fun i => [own tInt S6 a8 c9 (Ws.setR l at_ b), own tInt S1 a3 c4 (Ws.setR l at_ a), base w0])
          (fun i => i ≤ (Ws.setR l at_ a).length)
          (fun i => (Ws.setR l at_ a).length - i)
          0 ?_ (Sub.cons rfl (Sub.cons rfl (Sub.cons rfl (Sub.cons rfl (Sub.cons rfl (Sub.cons rfl (Sub.cons rfl (Sub.nil _)))))))) (fun _ hw => hw) ?_
        · exact Nat.zero_le _
        rintro i hI K hK17
        show SC _ _ Try.prog 110 w0 _ _ [(0, .slice al l.length cl), (1, .int .i64 at_), (2, .int .i64 a), (3, .int .i64 b), (9, .slice a3 (Ws.setR l at_ a).length c4), (11, .slice a8 (Ws.setR l at_ b).length c9), (17, .int .i64 (i : Int))] [own tInt S6 a8 c9 (Ws.setR l at_ b), own tInt S1 a3 c4 (Ws.setR l at_ a), base w0]
        refine c_seq ?_
        refine c_seq ?_
        refine c_region ?_
        refine o_pure (p_move (v := .int .i64 (i : Int)) rfl) rfl rfl rfl ?_
        refine o_pure (p_move (v := .slice a3 (Ws.setR l at_ a).length c4) rfl) rfl rfl rfl ?_
        refine o_pure (p_len_slice (len := (Ws.setR l at_ a).length) rfl rfl Try.underlying45) rfl rfl rfl ?_
        refine o_pure (p_lt (p := (i : Int)) (q := ((Ws.setR l at_ a).length : Int)) rfl rfl) rfl rfl rfl ?_
        refine o_nil ?_
        refine q_then ?_
        refine c_cond (b := decide ((i : Int) < ((Ws.setR l at_ a).length : Int))) rfl (fun hc18 => ?_) (fun hc18 => ?_)
        · simp only [decide_eq_true_eq] at hc18
          refine c_skip ?_
          refine q_then ?_
          refine c_seq ?_
          refine c_block ?_
          refine c_seq ?_
          refine c_region ?_
          refine o_pure (p_move (v := .slice a8 (Ws.setR l at_ b).length c9) rfl) rfl rfl rfl ?_
          refine o_pure (p_move (v := .slice a3 (Ws.setR l at_ a).length c4) rfl) rfl rfl rfl ?_
          refine o_pure (p_move (v := .int .i64 (i : Int)) rfl) rfl rfl rfl ?_
          refine o_pure (p_indexAddr (L := (Ws.setR l at_ a)) (T := tInt) (i := (i : Int)) rfl rfl (rd_own (i := 1) rfl) Try.underlying45 sz3 (by omega) (by omega)) rfl rfl rfl ?_
          refine o_pure (p_loadE1 (i := i) (T := tInt) (L := (Ws.setR l at_ a)) (v := .int .i64 ((Ws.setR l at_ a)[i])) rfl (rd_own (i := 1) rfl) (by first | assumption | omega) sh3 rfl) rfl rfl rfl ?_
          refine o_call0 (v := .bool (Ref.hasInt (Ws.setR l at_ b) ((Ws.setR l at_ a)[i]))) rfl (hasInt_ok (Ws.setR l at_ b) a8 c9 ((Ws.setR l at_ a)[i])) hf34 (fun w hw => (rd_own (i := 0) rfl) w hw) rfl ?_
          refine o_pure (p_not (b := (Ref.hasInt (Ws.setR l at_ b) ((Ws.setR l at_ a)[i]))) rfl) rfl rfl rfl ?_
          refine o_nil ?_
          refine q_then ?_
          refine c_cond (b := (!(Ref.hasInt (Ws.setR l at_ b) ((Ws.setR l at_ a)[i])))) rfl (fun hc19 => ?_) (fun hc19 => ?_)
          · simp only [Bool.not_eq_true'] at hc19
            exfalso; have h9 := q5 (Ws.setR l at_ a)[i] (List.getElem_mem (by omega)); simp_all
          · simp only [Bool.not_eq_false'] at hc19
            refine c_skip ?_
            refine q_block_normal (q_then ?_)
            refine c_region ?_
            refine o_pure (p_move (v := .int .i64 (i : Int)) rfl) rfl rfl rfl ?_
            refine o_pure (p_addb (p := (i : Int)) (q := 1) rfl rfl (by omega)) rfl rfl rfl ?_
            refine o_pure (p_assign (v := .int .i64 ((i : Int) + 1)) rfl) rfl rfl rfl ?_
            refine o_nil ?_
            refine q_round hK17 (i + 1) ?_ ?_ ?_ ?_
            · clear hK17
              (try dsimp only); omega
            · (try dsimp only); omega
            · exact Sub.cons rfl (Sub.cons rfl (Sub.cons rfl (Sub.cons rfl (Sub.cons rfl (Sub.cons rfl (Sub.cons rfl (Sub.nil _)))))))
            · exact fun _ hw => HeapIs.pick hw [0, 1, 2] (by decide) rfl
        · simp only [decide_eq_false_iff_not, Int.not_lt] at hc18
          refine c_exit ?_
          refine q_then_exit (q_then_exit (q_block_exit (q_then ?_)))
          refine c_seq ?_
          refine c_region ?_
          refine o_pure (p_move (v := .int .i64 at_) rfl) rfl rfl rfl ?_
          refine o_pure (p_ge (p := at_) (q := 0) rfl rfl) rfl rfl rfl ?_
          refine o_pure (p_move (v := .bool (decide (0 ≤ at_))) rfl) rfl rfl rfl ?_
          refine o_and (p := 89) 5 (decide (at_ < (l.length : Int))) ?_ ?_ ?_
          · intro hb20 hk
            simp only [decide_eq_true_eq] at hb20
            refine o_unguard 84 rfl rfl ?_
            refine o_pure (p_move (v := .int .i64 at_) rfl) rfl rfl rfl ?_
            refine o_unguard 84 rfl rfl ?_
            refine o_pure (p_move (v := .slice al l.length cl) rfl) rfl rfl rfl ?_
            refine o_unguard 84 rfl rfl ?_
            refine o_pure (p_len_slice (len := l.length) rfl rfl Try.underlying45) rfl rfl rfl ?_
            refine o_unguard 84 rfl rfl ?_
            refine o_pure (p_lt (p := at_) (q := (l.length : Int)) rfl rfl) rfl rfl rfl ?_
            refine o_pure (p_pick_true (u := .bool (decide (at_ < (l.length : Int)))) rfl rfl) rfl rfl rfl ?_
            exact o_sub (Sub.cons rfl (Sub.skip rfl (Sub.skip rfl (Sub.skip rfl (Sub.skip rfl (Sub.skip rfl (Sub.skip rfl (Sub.refl _)))))))) hk
          · intro hb20 hk
            refine o_guard_no rfl 84 rfl rfl rfl rfl rfl ?_
            refine o_guard_no rfl 84 rfl rfl rfl rfl rfl ?_
            refine o_guard_no rfl 84 rfl rfl rfl rfl rfl ?_
            refine o_guard_no rfl 84 rfl rfl rfl rfl rfl ?_
            refine o_pure (p_pick_false (v := .bool false) rfl rfl) rfl rfl rfl ?_
            exact o_sub (Sub.cons rfl (Sub.skip rfl (Sub.skip rfl (Sub.skip rfl (Sub.skip rfl (Sub.skip rfl (Sub.skip rfl (Sub.refl _)))))))) hk
          refine o_pure (p_move (v := .bool (decide (0 ≤ at_) && decide (at_ < (l.length : Int)))) rfl) rfl rfl rfl ?_
          refine o_and (p := 95) 5 (decide (((Ws.setR l at_ a).length : Int) ≤ a)) ?_ ?_ ?_
          · intro hb21 hk
            simp only [Bool.and_eq_true, decide_eq_true_eq] at hb21
            refine o_unguard 90 rfl rfl ?_
            refine o_pure (p_move (v := .slice a3 (Ws.setR l at_ a).length c4) rfl) rfl rfl rfl ?_
            refine o_unguard 90 rfl rfl ?_
            refine o_pure (p_len_slice (len := (Ws.setR l at_ a).length) rfl rfl Try.underlying45) rfl rfl rfl ?_
            refine o_unguard 90 rfl rfl ?_
            refine o_pure (p_move (v := .int .i64 a) rfl) rfl rfl rfl ?_
            refine o_unguard 90 rfl rfl ?_
            refine o_pure (p_le (p := ((Ws.setR l at_ a).length : Int)) (q := a) rfl rfl) rfl rfl rfl ?_
            refine o_pure (p_pick_true (u := .bool (decide (((Ws.setR l at_ a).length : Int) ≤ a))) rfl rfl) rfl rfl rfl ?_
            exact o_sub (Sub.cons rfl (Sub.skip rfl (Sub.skip rfl (Sub.skip rfl (Sub.skip rfl (Sub.skip rfl (Sub.skip rfl (Sub.refl _)))))))) hk
          · intro hb21 hk
            refine o_guard_no rfl 90 rfl rfl rfl rfl rfl ?_
            refine o_guard_no rfl 90 rfl rfl rfl rfl rfl ?_
            refine o_guard_no rfl 90 rfl rfl rfl rfl rfl ?_
            refine o_guard_no rfl 90 rfl rfl rfl rfl rfl ?_
            refine o_pure (p_pick_false (v := .bool false) rfl rfl) rfl rfl rfl ?_
            exact o_sub (Sub.cons rfl (Sub.skip rfl (Sub.skip rfl (Sub.skip rfl (Sub.skip rfl (Sub.skip rfl (Sub.skip rfl (Sub.refl _)))))))) hk
          refine o_pure (p_move (v := .bool ((decide (0 ≤ at_) && decide (at_ < (l.length : Int))) && decide (((Ws.setR l at_ a).length : Int) ≤ a))) rfl) rfl rfl rfl ?_
          refine o_and (p := 101) 5 (decide (((Ws.setR l at_ b).length : Int) ≤ b)) ?_ ?_ ?_
          · intro hb22 hk
            simp only [Bool.and_eq_true, decide_eq_true_eq] at hb22
            refine o_unguard 96 rfl rfl ?_
            refine o_pure (p_move (v := .slice a8 (Ws.setR l at_ b).length c9) rfl) rfl rfl rfl ?_
            refine o_unguard 96 rfl rfl ?_
            refine o_pure (p_len_slice (len := (Ws.setR l at_ b).length) rfl rfl Try.underlying45) rfl rfl rfl ?_
            refine o_unguard 96 rfl rfl ?_
            refine o_pure (p_move (v := .int .i64 b) rfl) rfl rfl rfl ?_
            refine o_unguard 96 rfl rfl ?_
            refine o_pure (p_le (p := ((Ws.setR l at_ b).length : Int)) (q := b) rfl rfl) rfl rfl rfl ?_
            refine o_pure (p_pick_true (u := .bool (decide (((Ws.setR l at_ b).length : Int) ≤ b))) rfl rfl) rfl rfl rfl ?_
            exact o_sub (Sub.cons rfl (Sub.skip rfl (Sub.skip rfl (Sub.skip rfl (Sub.skip rfl (Sub.skip rfl (Sub.skip rfl (Sub.refl _)))))))) hk
          · intro hb22 hk
            refine o_guard_no rfl 96 rfl rfl rfl rfl rfl ?_
            refine o_guard_no rfl 96 rfl rfl rfl rfl rfl ?_
            refine o_guard_no rfl 96 rfl rfl rfl rfl rfl ?_
            refine o_guard_no rfl 96 rfl rfl rfl rfl rfl ?_
            refine o_pure (p_pick_false (v := .bool false) rfl rfl) rfl rfl rfl ?_
            exact o_sub (Sub.cons rfl (Sub.skip rfl (Sub.skip rfl (Sub.skip rfl (Sub.skip rfl (Sub.skip rfl (Sub.skip rfl (Sub.refl _)))))))) hk
          refine o_pure (p_move (v := .bool (((decide (0 ≤ at_) && decide (at_ < (l.length : Int))) && decide (((Ws.setR l at_ a).length : Int) ≤ a)) && decide (((Ws.setR l at_ b).length : Int) ≤ b))) rfl) rfl rfl rfl ?_
          refine o_and (p := 109) 7 (Ref.hasInt (Ws.setR l at_ a) (l[at_.toNat])) ?_ ?_ ?_
          · intro hb23 hk
            simp only [Bool.and_eq_true, decide_eq_true_eq] at hb23
            refine o_unguard 102 rfl rfl ?_
            refine o_pure (p_move (v := .slice a3 (Ws.setR l at_ a).length c4) rfl) rfl rfl rfl ?_
            refine o_unguard 102 rfl rfl ?_
            refine o_pure (p_move (v := .slice al l.length cl) rfl) rfl rfl rfl ?_
            refine o_unguard 102 rfl rfl ?_
            refine o_pure (p_move (v := .int .i64 at_) rfl) rfl rfl rfl ?_
            refine o_unguard 102 rfl rfl ?_
            refine o_pure (p_indexAddr (L := l) (T := tInt) (i := at_) rfl rfl (rd_base (i := 2) rfl hl) Try.underlying45 sz3 (by omega) (by omega)) rfl rfl rfl ?_
            refine o_unguard 102 rfl rfl ?_
            refine o_pure (p_loadE1 (i := at_.toNat) (T := tInt) (L := l) (v := .int .i64 (l[at_.toNat])) rfl (rd_base (i := 2) rfl hl) (by first | assumption | omega) sh3 rfl) rfl rfl rfl ?_
            refine o_unguard 102 rfl rfl ?_
            refine o_call0 (v := .bool (Ref.hasInt (Ws.setR l at_ a) (l[at_.toNat]))) rfl (hasInt_ok (Ws.setR l at_ a) a3 c4 (l[at_.toNat])) hf34 (fun w hw => (rd_own (i := 1) rfl) w hw) rfl ?_
            refine o_pure (p_pick_true (u := .bool (Ref.hasInt (Ws.setR l at_ a) (l[at_.toNat]))) rfl rfl) rfl rfl rfl ?_
            exact o_sub (Sub.cons rfl (Sub.skip rfl (Sub.skip rfl (Sub.skip rfl (Sub.skip rfl (Sub.skip rfl (Sub.skip rfl (Sub.skip rfl (Sub.skip rfl (Sub.refl _)))))))))) hk
          · intro hb23 hk
            refine o_guard_no rfl 102 rfl rfl rfl rfl rfl ?_
            refine o_guard_no rfl 102 rfl rfl rfl rfl rfl ?_
            refine o_guard_no rfl 102 rfl rfl rfl rfl rfl ?_
            refine o_guard_no rfl 102 rfl rfl rfl rfl rfl ?_
            refine o_guard_no rfl 102 rfl rfl rfl rfl rfl ?_
            refine o_guard_no rfl 102 rfl rfl rfl rfl rfl ?_
            refine o_pure (p_pick_false (v := .bool false) rfl rfl) rfl rfl rfl ?_
            exact o_sub (Sub.cons rfl (Sub.skip rfl (Sub.skip rfl (Sub.skip rfl (Sub.skip rfl (Sub.skip rfl (Sub.skip rfl (Sub.skip rfl (Sub.skip rfl (Sub.refl _)))))))))) hk
          refine o_pure (p_assign (v := .bool ((((decide (0 ≤ at_) && decide (at_ < (l.length : Int))) && decide (((Ws.setR l at_ a).length : Int) ≤ a)) && decide (((Ws.setR l at_ b).length : Int) ≤ b)) && (Ref.hasInt (Ws.setR l at_ a) (l[at_.toNat])))) rfl) rfl rfl rfl ?_
          refine o_nil ?_
          refine q_then ?_
          refine c_ret ?_
          have hr0 : (((((decide (0 ≤ at_) && decide (at_ < (l.length : Int))) && decide (((Ws.setR l at_ a).length : Int) ≤ a)) && decide (((Ws.setR l at_ b).length : Int) ≤ b)) && (Ref.hasInt (Ws.setR l at_ a) (l[at_.toNat]))) : Bool) = true := by
            first | rfl | (rw [hre]; exact beq_self_eq_true _) | (simp only [q4, Bool.and_true, Bool.and_eq_true, decide_eq_true_eq]; omega)
          refine q_end0 (v := .bool ((((decide (0 ≤ at_) && decide (at_ < (l.length : Int))) && decide (((Ws.setR l at_ a).length : Int) ≤ a)) && decide (((Ws.setR l at_ b).length : Int) ≤ b)) && (Ref.hasInt (Ws.setR l at_ a) (l[at_.toNat])))) (rt1 rfl (r_tmp rfl)) (i := 2) rfl ?_
          exact (by have hcc := congrArg (fun (y0 : Bool) => (.bool y0 : Value)) hr0; exact hcc)
end Go.Proofs.Ythecfjipaepcgaa
