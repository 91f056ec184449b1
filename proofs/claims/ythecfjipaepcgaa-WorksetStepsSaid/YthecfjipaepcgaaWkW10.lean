/- The walks, printed by a program from the translation and a specification. -/
import Derived.Test.YthecfjipaepcgaaWkF
import Derived.Test.YthecfjipaepcgaaWsLaw5
import Derived.Test.YthecfjipaepcgaaExLaw
import Derived.Test.YthecfjipaepcgaaWkW6
import Derived.Test.YthecfjipaepcgaaWsLaw6
namespace Go.Proofs.Ythecfjipaepcgaa
open Go.Sx Go.RowKit
set_option maxHeartbeats 8000000 in
set_option maxRecDepth 100000 in
theorem worksetSteps_ok (l : List Int) (al : Option Addr) (cl : Nat) (wd : Int) : Fn0 Try.prog 12 [.slice al l.length cl, .int .i64 wd] (fun w => Rd tInt w al cl l) (.bool true) := by
  refine fn0 (nt := 102) (F0 := [(0, .slice al l.length cl), (1, .int .i64 wd)]) Try.func12 rfl Try.ntmps12 rfl rfl (fun w0 hpre => ?_)
  have hl := hpre
  have hlhl := hl.2.1
  refine c_seq ?_
  refine c_region ?_
  refine o_pure (p_assign (v := .bool false) rfl) rfl rfl rfl ?_
  refine o_nil ?_
  refine q_then ?_
  refine c_seq ?_
  refine c_region ?_
  refine o_pure (p_move (v := .slice al l.length cl) rfl) rfl rfl rfl ?_
  refine o_pure (p_move (v := .int .i64 wd) rfl) rfl rfl rfl ?_
  refine o_callM rfl (wsizes_ok l al cl wd) hf41 (fun w hw => (rd_base (i := 0) rfl hl) w hw) rfl (fun _ _ _ _ ha hA => SlO.agree ha hA) ?_
  rintro ⟨a3, c4⟩ S1
  refine o_know (fun w hw => own_len (i := 0) (T := tInt) hw rfl) (fun hlr5 => ?_)
  refine o_pure (p_move (v := .tuple #[.slice a3 (Ws.sizes l wd).length c4, .int .i64 (Ws.check l wd)]) rfl) rfl rfl rfl ?_
  refine o_pure (p_extract (vs := [.slice a3 (Ws.sizes l wd).length c4, .int .i64 (Ws.check l wd)]) (v := .slice a3 (Ws.sizes l wd).length c4) rfl rfl) rfl rfl rfl ?_
  refine o_pure (p_extract (vs := [.slice a3 (Ws.sizes l wd).length c4, .int .i64 (Ws.check l wd)]) (v := .int .i64 (Ws.check l wd)) rfl rfl) rfl rfl rfl ?_
  refine o_pure (p_assign (v := .slice a3 (Ws.sizes l wd).length c4) rfl) rfl rfl rfl ?_
  refine o_pure (p_assign (v := .int .i64 (Ws.check l wd)) rfl) rfl rfl rfl ?_
  refine o_nil ?_
  refine q_then ?_
  refine c_seq ?_
  refine c_region ?_
  refine o_pure (p_move (v := .slice al l.length cl) rfl) rfl rfl rfl ?_
  refine o_call0 (v := .tuple #[.int .i64 (Ws.faults l (200 : Int)), .int .i64 (Ws.check l (200 : Int))]) rfl (wfaults_ok l al cl (200 : Int)) hf42 (fun w hw => (rd_base (i := 1) rfl hl) w hw) rfl ?_
  refine o_pure (p_move (v := .tuple #[.int .i64 (Ws.faults l (200 : Int)), .int .i64 (Ws.check l (200 : Int))]) rfl) rfl rfl rfl ?_
  refine o_pure (p_extract (vs := [.int .i64 (Ws.faults l (200 : Int)), .int .i64 (Ws.check l (200 : Int))]) (v := .int .i64 (Ws.faults l (200 : Int))) rfl rfl) rfl rfl rfl ?_
  refine o_pure (p_extract (vs := [.int .i64 (Ws.faults l (200 : Int)), .int .i64 (Ws.check l (200 : Int))]) (v := .int .i64 (Ws.check l (200 : Int))) rfl rfl) rfl rfl rfl ?_
  refine o_pure (p_assign (v := .int .i64 (Ws.faults l (200 : Int))) rfl) rfl rfl rfl ?_
  refine o_pure (p_assign (v := .int .i64 (Ws.check l (200 : Int))) rfl) rfl rfl rfl ?_
  refine o_nil ?_
  refine q_then ?_
  refine c_seq ?_
  refine c_seq ?_
  refine c_region ?_
  refine o_call0 (v := .bool true) rfl (workBegun_ok ) hf48 (fun _ _ => trivial) rfl ?_
  refine o_pure (p_not (b := true) rfl) rfl rfl rfl ?_
  refine o_nil ?_
  refine q_then ?_
  refine c_false rfl ?_
  refine c_skip ?_
  refine q_then ?_
  refine c_seq ?_
  refine c_seq ?_
  refine c_region ?_
  refine o_pure (p_move (v := .int .i64 (Ws.check l (200 : Int))) rfl) rfl rfl rfl ?_
  refine o_pure (p_ne (p := (Ws.check l (200 : Int))) (q := 0) rfl rfl) rfl rfl rfl ?_
  refine o_nil ?_
  refine q_then ?_
  refine c_cond (b := ((Ws.check l (200 : Int)) != 0)) rfl (fun hc6 => ?_) (fun hc6 => ?_)
  · simp only [bne_iff_ne, ne_eq] at hc6
    have hbb := Ws.bad200 hc6 wd
    refine c_seq ?_
    refine c_region ?_
    refine o_pure (p_move (v := .int .i64 (Ws.check l wd)) rfl) rfl rfl rfl ?_
    refine o_pure (p_ne (p := (Ws.check l wd)) (q := 0) rfl rfl) rfl rfl rfl ?_
    refine o_pure (p_move (v := .bool ((Ws.check l wd) != 0)) rfl) rfl rfl rfl ?_
    refine o_and (p := 31) 3 ((Ws.faults l (200 : Int)) == 0) ?_ ?_ ?_
    · intro hb7 hk
      simp only [bne_iff_ne, ne_eq] at hb7
      refine o_unguard 28 rfl rfl ?_
      refine o_pure (p_move (v := .int .i64 (Ws.faults l (200 : Int))) rfl) rfl rfl rfl ?_
      refine o_unguard 28 rfl rfl ?_
      refine o_pure (p_eq (p := (Ws.faults l (200 : Int))) (q := 0) rfl rfl) rfl rfl rfl ?_
      refine o_pure (p_pick_true (u := .bool ((Ws.faults l (200 : Int)) == 0)) rfl rfl) rfl rfl rfl ?_
      exact o_sub (Sub.cons rfl (Sub.skip rfl (Sub.skip rfl (Sub.skip rfl (Sub.skip rfl (Sub.refl _)))))) hk
    · intro hb7 hk
      refine o_guard_no rfl 28 rfl rfl rfl rfl rfl ?_
      refine o_guard_no rfl 28 rfl rfl rfl rfl rfl ?_
      refine o_pure (p_pick_false (v := .bool false) rfl rfl) rfl rfl rfl ?_
      exact o_sub (Sub.cons rfl (Sub.skip rfl (Sub.skip rfl (Sub.skip rfl (Sub.skip rfl (Sub.refl _)))))) hk
    refine o_pure (p_assign (v := .bool (((Ws.check l wd) != 0) && ((Ws.faults l (200 : Int)) == 0))) rfl) rfl rfl rfl ?_
    refine o_nil ?_
    refine q_then ?_
    refine c_ret ?_
    refine q_then_ret ?_
    have hr0 : ((((Ws.check l wd) != 0) && ((Ws.faults l (200 : Int)) == 0)) : Bool) = true := by
      first | rfl | exact hbb | (rw [hI.done (by omega) hck]; exact beq_self_eq_true _)
    refine q_end0 (v := .bool (((Ws.check l wd) != 0) && ((Ws.faults l (200 : Int)) == 0))) (rt1 rfl (r_tmp rfl)) (i := 1) rfl ?_
    exact (by have hcc := congrArg (fun (y0 : Bool) => (.bool y0 : Value)) hr0; exact hcc)
  · simp only [bne_eq_false_iff_eq] at hc6
    have hck := hc6
    have h200 := (Ws.chk_ok hc6).2.2
    refine c_skip ?_
    refine q_then ?_
    refine c_seq ?_
    refine c_region ?_
    refine o_pure (p_assign (v := .slice none 0 0) rfl) rfl rfl rfl ?_
    refine o_nil ?_
    refine q_then ?_
    refine c_seq ?_
    refine c_seq ?_
    refine c_region ?_
    refine o_pure (p_assign (v := .int .i64 0) rfl) rfl rfl rfl ?_
    refine o_nil ?_
    refine q_then ?_
    refine c_block ?_
    refine c_ownNil tInt ?_
    refine c_loop (St := List Int × Option Addr × Nat × (Nat → Prop) × Nat)
      (fun ⟨unlike, aunlike, cunlike, Sunlike, i⟩ => [(0, .slice al l.length cl), (5, .slice a3 (Ws.sizes l wd).length c4), (6, .int .i64 (Ws.check l wd)), (7, .int .i64 (Ws.faults l (200 : Int))), (9, .slice aunlike unlike.length cunlike), (10, .int .i64 (i : Int))])
      (fun ⟨unlike, aunlike, cunlike, Sunlike, i⟩ => [own tInt Sunlike aunlike cunlike unlike, own tInt S1 a3 c4 (Ws.sizes l wd), base w0])
      (fun ⟨unlike, aunlike, cunlike, Sunlike, i⟩ => Ws.UI l unlike i)
      (fun ⟨unlike, aunlike, cunlike, Sunlike, i⟩ => l.length - i)
      ([], none, 0, (fun _ => False), 0) ?_ (Sub.cons rfl (Sub.cons rfl (Sub.cons rfl (Sub.cons rfl (Sub.cons rfl (Sub.cons rfl (Sub.nil _))))))) (fun _ hw => hw) ?_
    · exact Ws.UI.start l
    rintro ⟨unlike, aunlike, cunlike, Sunlike, i⟩ hI K hK9
    have hle := hI.le
    have hcnt := hI.cnt
    have hfb := Ws.fc_bd l 200 i
    show SC _ _ Try.prog 102 w0 _ _ [(0, .slice al l.length cl), (5, .slice a3 (Ws.sizes l wd).length c4), (6, .int .i64 (Ws.check l wd)), (7, .int .i64 (Ws.faults l (200 : Int))), (9, .slice aunlike unlike.length cunlike), (10, .int .i64 (i : Int))] [own tInt Sunlike aunlike cunlike unlike, own tInt S1 a3 c4 (Ws.sizes l wd), base w0]
    refine c_seq ?_
    refine c_seq ?_
    refine c_region ?_
    refine o_pure (p_move (v := .int .i64 (i : Int)) rfl) rfl rfl rfl ?_
    refine o_pure (p_move (v := .slice al l.length cl) rfl) rfl rfl rfl ?_
    refine o_pure (p_len_slice (len := l.length) rfl rfl Try.underlying45) rfl rfl rfl ?_
    refine o_pure (p_lt (p := (i : Int)) (q := (l.length : Int)) rfl rfl) rfl rfl rfl ?_
    refine o_nil ?_
    refine q_then ?_
    refine c_cond (b := decide ((i : Int) < (l.length : Int))) rfl (fun hc10 => ?_) (fun hc10 => ?_)
    · simp only [decide_eq_true_eq] at hc10
      refine c_skip ?_
      refine q_then ?_
      refine c_seq ?_
      refine c_block ?_
      refine c_seq ?_
      refine c_seq ?_
      refine c_region ?_
      refine o_pure (p_move (v := .slice aunlike unlike.length cunlike) rfl) rfl rfl rfl ?_
      refine o_pure (p_move (v := .slice al l.length cl) rfl) rfl rfl rfl ?_
      refine o_pure (p_move (v := .int .i64 (i : Int)) rfl) rfl rfl rfl ?_
      refine o_pure (p_indexAddr (L := l) (T := tInt) (i := (i : Int)) rfl rfl (rd_base (i := 2) rfl hl) Try.underlying45 sz3 (by omega) (by omega)) rfl rfl rfl ?_
      refine o_pure (p_loadE1 (i := i) (T := tInt) (L := l) (v := .int .i64 (l.getD i default)) rfl (rd_base (i := 2) rfl hl) (by first | assumption | omega) sh3 (congrArg tInt.enc (getd_at (by first | assumption | omega) default))) rfl rfl rfl ?_
      refine o_call0 (v := .bool (Ref.hasInt unlike (l.getD i default))) rfl (hasInt_ok unlike aunlike cunlike (l.getD i default)) hf34 (fun w hw => (rd_own (i := 0) rfl) w hw) rfl ?_
      refine o_pure (p_not (b := (Ref.hasInt unlike (l.getD i default))) rfl) rfl rfl rfl ?_
      refine o_nil ?_
      refine q_then ?_
      refine c_cond (b := (!(Ref.hasInt unlike (l.getD i default)))) rfl (fun hc11 => ?_) (fun hc11 => ?_)
      · simp only [Bool.not_eq_true'] at hc11
        have hch := hc11
        refine c_region ?_
        refine o_pure (p_move (v := .slice aunlike unlike.length cunlike) rfl) rfl rfl rfl ?_
        refine o_pure (p_move (v := .slice al l.length cl) rfl) rfl rfl rfl ?_
        refine o_pure (p_move (v := .int .i64 (i : Int)) rfl) rfl rfl rfl ?_
        refine o_pure (p_indexAddr (L := l) (T := tInt) (i := (i : Int)) rfl rfl (rd_base (i := 2) rfl hl) Try.underlying45 sz3 (by omega) (by omega)) rfl rfl rfl ?_
        refine o_pure (p_loadE1 (i := i) (T := tInt) (L := l) (v := .int .i64 (l.getD i default)) rfl (rd_base (i := 2) rfl hl) (by first | assumption | omega) sh3 (congrArg tInt.enc (getd_at (by first | assumption | omega) default))) rfl rfl rfl ?_
        refine o_buildSlice (m := 1) (T := tInt) (L := [(l.getD i default)]) (vs := [.int .i64 (l.getD i default)]) rfl rfl rfl rfl Try.underlying45 sz3 (by decide) ze3 rfl (by decide) rfl (fun S12 a13 => ?_)
        refine o_append (i := 1) (L := unlike) (M := [(l.getD i default)]) (T := tInt) rfl rfl rfl (rd_own (i := 0) rfl) Try.underlying45 Try.underlying45 (by intro k h; cases h) el3 (by intro z; simp [tInt, one1]) (by decide) (by first | omega | (simp only [List.length_cons, List.length_nil]; omega) | (simp only [List.length_append, List.length_cons, List.length_nil, List.length_take, List.length_drop]; omega)) rfl (fun a15 c16 S17 => ?_)
        refine o_pure (p_assign (v := .slice a15 (unlike ++ [(l.getD i default)]).length c16) rfl) rfl rfl rfl ?_
        refine o_nil ?_
        refine q_then ?_
        refine c_seq ?_
        refine c_draw hmix (by kernel_rfl) ?_
        refine w_pure (p_move (v := .int .i64 (Ws.check l wd)) rfl) rfl rfl rfl ?_
        refine w_pure (p_eq (p := (Ws.check l wd)) (q := 0) rfl rfl) rfl rfl rfl ?_
        refine w_pure (p_move (v := .bool ((Ws.check l wd) == 0)) rfl) rfl rfl rfl ?_
        refine w_and (p := 97) 43 (((((Ws.sizes l wd).length : Int) != (l.length : Int)) || decide (((Ws.sizes l wd).getD i default) < 1)) || (decide (0 < (i : Int)) && (decide (1 < (((Ws.sizes l wd).getD i default) - ((Ws.sizes l wd).getD (((i : Int) - 1).toNat) default))) || decide (1 < (((Ws.sizes l wd).getD (((i : Int) - 1).toNat) default) - ((Ws.sizes l wd).getD i default)))))) ?_ ?_ ?_
        · intro hb18 hk
          simp only [beq_iff_eq] at hb18
          refine w_unguard 54 rfl rfl ?_
          refine w_pure (p_move (v := .slice a3 (Ws.sizes l wd).length c4) rfl) rfl rfl rfl ?_
          refine w_unguard 54 rfl rfl ?_
          refine w_pure (p_len_slice (len := (Ws.sizes l wd).length) rfl rfl Try.underlying45) rfl rfl rfl ?_
          refine w_unguard 54 rfl rfl ?_
          refine w_pure (p_move (v := .slice al l.length cl) rfl) rfl rfl rfl ?_
          refine w_unguard 54 rfl rfl ?_
          refine w_pure (p_len_slice (len := l.length) rfl rfl Try.underlying45) rfl rfl rfl ?_
          refine w_unguard 54 rfl rfl ?_
          refine w_pure (p_ne (p := ((Ws.sizes l wd).length : Int)) (q := (l.length : Int)) rfl rfl) rfl rfl rfl ?_
          refine w_unguard 54 rfl rfl ?_
          refine w_pure (p_move (v := .bool (((Ws.sizes l wd).length : Int) != (l.length : Int))) rfl) rfl rfl rfl ?_
          refine w_or (p := 66) 6 (decide (((Ws.sizes l wd).getD i default) < 1)) ?_ ?_ ?_
          · intro hb19 hk
            simp only [bne_eq_false_iff_eq] at hb19
            refine w_unguard 60 rfl rfl ?_
            refine w_pure (p_move (v := .slice a3 (Ws.sizes l wd).length c4) rfl) rfl rfl rfl ?_
            refine w_unguard 60 rfl rfl ?_
            refine w_pure (p_move (v := .int .i64 (i : Int)) rfl) rfl rfl rfl ?_
            refine w_unguard 60 rfl rfl ?_
            refine w_pure (p_indexAddr (L := (Ws.sizes l wd)) (T := tInt) (i := (i : Int)) rfl rfl (rd_own (i := 2) rfl) Try.underlying45 sz3 (by omega) (by omega)) rfl rfl rfl ?_
            refine w_unguard 60 rfl rfl ?_
            refine w_pure (p_loadE1 (i := i) (T := tInt) (L := (Ws.sizes l wd)) (v := .int .i64 ((Ws.sizes l wd).getD i default)) rfl (rd_own (i := 2) rfl) (by first | assumption | omega) sh3 (congrArg tInt.enc (getd_at (by first | assumption | omega) default))) rfl rfl rfl ?_
            refine w_unguard 60 rfl rfl ?_
            refine w_pure (p_lt (p := ((Ws.sizes l wd).getD i default)) (q := 1) rfl rfl) rfl rfl rfl ?_
            refine w_unguard 54 rfl rfl ?_
            refine w_pure (p_pick_false (v := .bool (decide (((Ws.sizes l wd).getD i default) < 1))) rfl rfl) rfl rfl rfl ?_
            exact w_sub (Sub.cons rfl (Sub.skip rfl (Sub.skip rfl (Sub.skip rfl (Sub.skip rfl (Sub.skip rfl (Sub.skip rfl (Sub.skip rfl (Sub.refl _))))))))) hk
          · intro hb19 hk
            refine w_guard_no rfl 60 rfl rfl rfl rfl rfl ?_
            refine w_guard_no rfl 60 rfl rfl rfl rfl rfl ?_
            refine w_guard_no rfl 60 rfl rfl rfl rfl rfl ?_
            refine w_guard_no rfl 60 rfl rfl rfl rfl rfl ?_
            refine w_guard_no rfl 60 rfl rfl rfl rfl rfl ?_
            refine w_unguard 54 rfl rfl ?_
            refine w_pure (p_pick_true (u := .bool true) rfl rfl) rfl rfl rfl ?_
            exact w_sub (Sub.cons rfl (Sub.skip rfl (Sub.skip rfl (Sub.skip rfl (Sub.skip rfl (Sub.skip rfl (Sub.skip rfl (Sub.skip rfl (Sub.refl _))))))))) hk
          refine w_unguard 54 rfl rfl ?_
          refine w_pure (p_move (v := .bool ((((Ws.sizes l wd).length : Int) != (l.length : Int)) || decide (((Ws.sizes l wd).getD i default) < 1))) rfl) rfl rfl rfl ?_
          refine w_or (p := 96) 29 (decide (0 < (i : Int)) && (decide (1 < (((Ws.sizes l wd).getD i default) - ((Ws.sizes l wd).getD (((i : Int) - 1).toNat) default))) || decide (1 < (((Ws.sizes l wd).getD (((i : Int) - 1).toNat) default) - ((Ws.sizes l wd).getD i default))))) ?_ ?_ ?_
          · intro hb20 hk
            simp only [Bool.or_eq_false_iff, bne_eq_false_iff_eq, decide_eq_false_iff_not, Int.not_lt] at hb20
            refine w_unguard 67 rfl rfl ?_
            refine w_pure (p_move (v := .int .i64 (i : Int)) rfl) rfl rfl rfl ?_
            refine w_unguard 67 rfl rfl ?_
            refine w_pure (p_gt (p := (i : Int)) (q := 0) rfl rfl) rfl rfl rfl ?_
            refine w_unguard 67 rfl rfl ?_
            refine w_pure (p_move (v := .bool (decide (0 < (i : Int)))) rfl) rfl rfl rfl ?_
            refine w_and (p := 95) 25 (decide (1 < (((Ws.sizes l wd).getD i default) - ((Ws.sizes l wd).getD (((i : Int) - 1).toNat) default))) || decide (1 < (((Ws.sizes l wd).getD (((i : Int) - 1).toNat) default) - ((Ws.sizes l wd).getD i default)))) ?_ ?_ ?_
            · intro hb21 hk
              simp only [decide_eq_true_eq] at hb21
              refine w_unguard 70 rfl rfl ?_
              refine w_pure (p_move (v := .slice a3 (Ws.sizes l wd).length c4) rfl) rfl rfl rfl ?_
              refine w_unguard 70 rfl rfl ?_
              refine w_pure (p_move (v := .int .i64 (i : Int)) rfl) rfl rfl rfl ?_
              refine w_unguard 70 rfl rfl ?_
              refine w_pure (p_indexAddr (L := (Ws.sizes l wd)) (T := tInt) (i := (i : Int)) rfl rfl (rd_own (i := 2) rfl) Try.underlying45 sz3 (by omega) (by omega)) rfl rfl rfl ?_
              refine w_unguard 70 rfl rfl ?_
              refine w_pure (p_loadE1 (i := i) (T := tInt) (L := (Ws.sizes l wd)) (v := .int .i64 ((Ws.sizes l wd).getD i default)) rfl (rd_own (i := 2) rfl) (by first | assumption | omega) sh3 (congrArg tInt.enc (getd_at (by first | assumption | omega) default))) rfl rfl rfl ?_
              refine w_unguard 70 rfl rfl ?_
              refine w_pure (p_move (v := .slice a3 (Ws.sizes l wd).length c4) rfl) rfl rfl rfl ?_
              refine w_unguard 70 rfl rfl ?_
              refine w_pure (p_move (v := .int .i64 (i : Int)) rfl) rfl rfl rfl ?_
              refine w_unguard 70 rfl rfl ?_
              refine w_pure (p_subb (p := (i : Int)) (q := 1) rfl rfl (by omega)) rfl rfl rfl ?_
              refine w_unguard 70 rfl rfl ?_
              refine w_pure (p_indexAddr (L := (Ws.sizes l wd)) (T := tInt) (i := ((i : Int) - 1)) rfl rfl (rd_own (i := 2) rfl) Try.underlying45 sz3 (by omega) (by omega)) rfl rfl rfl ?_
              refine w_unguard 70 rfl rfl ?_
              refine w_pure (p_loadE1 (i := ((i : Int) - 1).toNat) (T := tInt) (L := (Ws.sizes l wd)) (v := .int .i64 ((Ws.sizes l wd).getD (((i : Int) - 1).toNat) default)) rfl (rd_own (i := 2) rfl) (by first | assumption | omega) sh3 (congrArg tInt.enc (getd_at (by first | assumption | omega) default))) rfl rfl rfl ?_
              refine w_unguard 70 rfl rfl ?_
              refine w_pure (p_subb (p := ((Ws.sizes l wd).getD i default)) (q := ((Ws.sizes l wd).getD (((i : Int) - 1).toNat) default)) rfl rfl (by have b1 := Ws.sz_bd h200 wd i; have b2 := Ws.sz_bd h200 wd ((i : Int) - 1).toNat; omega)) rfl rfl rfl ?_
              refine w_unguard 70 rfl rfl ?_
              refine w_pure (p_gt (p := (((Ws.sizes l wd).getD i default) - ((Ws.sizes l wd).getD (((i : Int) - 1).toNat) default))) (q := 1) rfl rfl) rfl rfl rfl ?_
              refine w_unguard 70 rfl rfl ?_
              refine w_pure (p_move (v := .bool (decide (1 < (((Ws.sizes l wd).getD i default) - ((Ws.sizes l wd).getD (((i : Int) - 1).toNat) default))))) rfl) rfl rfl rfl ?_
              refine w_or (p := 94) 12 (decide (1 < (((Ws.sizes l wd).getD (((i : Int) - 1).toNat) default) - ((Ws.sizes l wd).getD i default)))) ?_ ?_ ?_
              · intro hb22 hk
                simp only [decide_eq_false_iff_not, Int.not_lt] at hb22
                refine w_unguard 82 rfl rfl ?_
                refine w_pure (p_move (v := .slice a3 (Ws.sizes l wd).length c4) rfl) rfl rfl rfl ?_
                refine w_unguard 82 rfl rfl ?_
                refine w_pure (p_move (v := .int .i64 (i : Int)) rfl) rfl rfl rfl ?_
                refine w_unguard 82 rfl rfl ?_
                refine w_pure (p_subb (p := (i : Int)) (q := 1) rfl rfl (by omega)) rfl rfl rfl ?_
                refine w_unguard 82 rfl rfl ?_
                refine w_pure (p_indexAddr (L := (Ws.sizes l wd)) (T := tInt) (i := ((i : Int) - 1)) rfl rfl (rd_own (i := 2) rfl) Try.underlying45 sz3 (by omega) (by omega)) rfl rfl rfl ?_
                refine w_unguard 82 rfl rfl ?_
                refine w_pure (p_loadE1 (i := ((i : Int) - 1).toNat) (T := tInt) (L := (Ws.sizes l wd)) (v := .int .i64 ((Ws.sizes l wd).getD (((i : Int) - 1).toNat) default)) rfl (rd_own (i := 2) rfl) (by first | assumption | omega) sh3 (congrArg tInt.enc (getd_at (by first | assumption | omega) default))) rfl rfl rfl ?_
                refine w_unguard 82 rfl rfl ?_
                refine w_pure (p_move (v := .slice a3 (Ws.sizes l wd).length c4) rfl) rfl rfl rfl ?_
                refine w_unguard 82 rfl rfl ?_
                refine w_pure (p_move (v := .int .i64 (i : Int)) rfl) rfl rfl rfl ?_
                refine w_unguard 82 rfl rfl ?_
                refine w_pure (p_indexAddr (L := (Ws.sizes l wd)) (T := tInt) (i := (i : Int)) rfl rfl (rd_own (i := 2) rfl) Try.underlying45 sz3 (by omega) (by omega)) rfl rfl rfl ?_
                refine w_unguard 82 rfl rfl ?_
                refine w_pure (p_loadE1 (i := i) (T := tInt) (L := (Ws.sizes l wd)) (v := .int .i64 ((Ws.sizes l wd).getD i default)) rfl (rd_own (i := 2) rfl) (by first | assumption | omega) sh3 (congrArg tInt.enc (getd_at (by first | assumption | omega) default))) rfl rfl rfl ?_
                refine w_unguard 82 rfl rfl ?_
                refine w_pure (p_subb (p := ((Ws.sizes l wd).getD (((i : Int) - 1).toNat) default)) (q := ((Ws.sizes l wd).getD i default)) rfl rfl (by have b1 := Ws.sz_bd h200 wd i; have b2 := Ws.sz_bd h200 wd ((i : Int) - 1).toNat; omega)) rfl rfl rfl ?_
                refine w_unguard 82 rfl rfl ?_
                refine w_pure (p_gt (p := (((Ws.sizes l wd).getD (((i : Int) - 1).toNat) default) - ((Ws.sizes l wd).getD i default))) (q := 1) rfl rfl) rfl rfl rfl ?_
                refine w_unguard 70 rfl rfl ?_
                refine w_pure (p_pick_false (v := .bool (decide (1 < (((Ws.sizes l wd).getD (((i : Int) - 1).toNat) default) - ((Ws.sizes l wd).getD i default))))) rfl rfl) rfl rfl rfl ?_
                exact w_sub (Sub.cons rfl (Sub.skip rfl (Sub.skip rfl (Sub.skip rfl (Sub.skip rfl (Sub.skip rfl (Sub.skip rfl (Sub.skip rfl (Sub.skip rfl (Sub.skip rfl (Sub.skip rfl (Sub.skip rfl (Sub.skip rfl (Sub.skip rfl (Sub.refl _))))))))))))))) hk
              · intro hb22 hk
                refine w_guard_no rfl 82 rfl rfl rfl rfl rfl ?_
                refine w_guard_no rfl 82 rfl rfl rfl rfl rfl ?_
                refine w_guard_no rfl 82 rfl rfl rfl rfl rfl ?_
                refine w_guard_no rfl 82 rfl rfl rfl rfl rfl ?_
                refine w_guard_no rfl 82 rfl rfl rfl rfl rfl ?_
                refine w_guard_no rfl 82 rfl rfl rfl rfl rfl ?_
                refine w_guard_no rfl 82 rfl rfl rfl rfl rfl ?_
                refine w_guard_no rfl 82 rfl rfl rfl rfl rfl ?_
                refine w_guard_no rfl 82 rfl rfl rfl rfl rfl ?_
                refine w_guard_no rfl 82 rfl rfl rfl rfl rfl ?_
                refine w_guard_no rfl 82 rfl rfl rfl rfl rfl ?_
                refine w_unguard 70 rfl rfl ?_
                refine w_pure (p_pick_true (u := .bool true) rfl rfl) rfl rfl rfl ?_
                exact w_sub (Sub.cons rfl (Sub.skip rfl (Sub.skip rfl (Sub.skip rfl (Sub.skip rfl (Sub.skip rfl (Sub.skip rfl (Sub.skip rfl (Sub.skip rfl (Sub.skip rfl (Sub.skip rfl (Sub.skip rfl (Sub.skip rfl (Sub.skip rfl (Sub.refl _))))))))))))))) hk
              refine w_unguard 67 rfl rfl ?_
              refine w_pure (p_pick_true (u := .bool (decide (1 < (((Ws.sizes l wd).getD i default) - ((Ws.sizes l wd).getD (((i : Int) - 1).toNat) default))) || decide (1 < (((Ws.sizes l wd).getD (((i : Int) - 1).toNat) default) - ((Ws.sizes l wd).getD i default))))) rfl rfl) rfl rfl rfl ?_
              exact w_sub (Sub.cons rfl (Sub.skip rfl (Sub.skip rfl (Sub.skip rfl (Sub.skip rfl (Sub.skip rfl (Sub.skip rfl (Sub.skip rfl (Sub.skip rfl (Sub.skip rfl (Sub.skip rfl (Sub.skip rfl (Sub.skip rfl (Sub.skip rfl (Sub.skip rfl (Sub.refl _)))))))))))))))) hk
            · intro hb21 hk
              refine w_guard_no rfl 70 rfl rfl rfl rfl rfl ?_
              refine w_guard_no rfl 70 rfl rfl rfl rfl rfl ?_
              refine w_guard_no rfl 70 rfl rfl rfl rfl rfl ?_
              refine w_guard_no rfl 70 rfl rfl rfl rfl rfl ?_
              refine w_guard_no rfl 70 rfl rfl rfl rfl rfl ?_
              refine w_guard_no rfl 70 rfl rfl rfl rfl rfl ?_
              refine w_guard_no rfl 70 rfl rfl rfl rfl rfl ?_
              refine w_guard_no rfl 70 rfl rfl rfl rfl rfl ?_
              refine w_guard_no rfl 70 rfl rfl rfl rfl rfl ?_
              refine w_guard_no rfl 70 rfl rfl rfl rfl rfl ?_
              refine w_guard_no rfl 70 rfl rfl rfl rfl rfl ?_
              refine w_guard_no rfl 70 rfl rfl rfl rfl rfl ?_
              refine w_guard_no rfl 82 rfl rfl rfl rfl rfl ?_
              refine w_guard_no rfl 82 rfl rfl rfl rfl rfl ?_
              refine w_guard_no rfl 82 rfl rfl rfl rfl rfl ?_
              refine w_guard_no rfl 82 rfl rfl rfl rfl rfl ?_
              refine w_guard_no rfl 82 rfl rfl rfl rfl rfl ?_
              refine w_guard_no rfl 82 rfl rfl rfl rfl rfl ?_
              refine w_guard_no rfl 82 rfl rfl rfl rfl rfl ?_
              refine w_guard_no rfl 82 rfl rfl rfl rfl rfl ?_
              refine w_guard_no rfl 82 rfl rfl rfl rfl rfl ?_
              refine w_guard_no rfl 82 rfl rfl rfl rfl rfl ?_
              refine w_guard_no rfl 82 rfl rfl rfl rfl rfl ?_
              refine w_guard_no rfl 70 rfl rfl rfl rfl rfl ?_
              refine w_unguard 67 rfl rfl ?_
              refine w_pure (p_pick_false (v := .bool false) rfl rfl) rfl rfl rfl ?_
              exact w_sub (Sub.cons rfl (Sub.skip rfl (Sub.skip rfl (Sub.skip rfl (Sub.skip rfl (Sub.skip rfl (Sub.skip rfl (Sub.skip rfl (Sub.skip rfl (Sub.skip rfl (Sub.skip rfl (Sub.skip rfl (Sub.skip rfl (Sub.skip rfl (Sub.skip rfl (Sub.skip rfl (Sub.skip rfl (Sub.skip rfl (Sub.skip rfl (Sub.skip rfl (Sub.skip rfl (Sub.skip rfl (Sub.skip rfl (Sub.skip rfl (Sub.skip rfl (Sub.skip rfl (Sub.skip rfl (Sub.refl _)))))))))))))))))))))))))))) hk
            refine w_unguard 54 rfl rfl ?_
            refine w_pure (p_pick_false (v := .bool (decide (0 < (i : Int)) && (decide (1 < (((Ws.sizes l wd).getD i default) - ((Ws.sizes l wd).getD (((i : Int) - 1).toNat) default))) || decide (1 < (((Ws.sizes l wd).getD (((i : Int) - 1).toNat) default) - ((Ws.sizes l wd).getD i default)))))) rfl rfl) rfl rfl rfl ?_
            exact w_sub (Sub.cons rfl (Sub.skip rfl (Sub.skip rfl (Sub.skip rfl (Sub.skip rfl (Sub.skip rfl (Sub.refl _))))))) hk
          · intro hb20 hk
            refine w_guard_no rfl 67 rfl rfl rfl rfl rfl ?_
            refine w_guard_no rfl 67 rfl rfl rfl rfl rfl ?_
            refine w_guard_no rfl 67 rfl rfl rfl rfl rfl ?_
            refine w_guard_no rfl 70 rfl rfl rfl rfl rfl ?_
            refine w_guard_no rfl 70 rfl rfl rfl rfl rfl ?_
            refine w_guard_no rfl 70 rfl rfl rfl rfl rfl ?_
            refine w_guard_no rfl 70 rfl rfl rfl rfl rfl ?_
            refine w_guard_no rfl 70 rfl rfl rfl rfl rfl ?_
            refine w_guard_no rfl 70 rfl rfl rfl rfl rfl ?_
            refine w_guard_no rfl 70 rfl rfl rfl rfl rfl ?_
            refine w_guard_no rfl 70 rfl rfl rfl rfl rfl ?_
            refine w_guard_no rfl 70 rfl rfl rfl rfl rfl ?_
            refine w_guard_no rfl 70 rfl rfl rfl rfl rfl ?_
            refine w_guard_no rfl 70 rfl rfl rfl rfl rfl ?_
            refine w_guard_no rfl 70 rfl rfl rfl rfl rfl ?_
            refine w_guard_no rfl 82 rfl rfl rfl rfl rfl ?_
            refine w_guard_no rfl 82 rfl rfl rfl rfl rfl ?_
            refine w_guard_no rfl 82 rfl rfl rfl rfl rfl ?_
            refine w_guard_no rfl 82 rfl rfl rfl rfl rfl ?_
            refine w_guard_no rfl 82 rfl rfl rfl rfl rfl ?_
            refine w_guard_no rfl 82 rfl rfl rfl rfl rfl ?_
            refine w_guard_no rfl 82 rfl rfl rfl rfl rfl ?_
            refine w_guard_no rfl 82 rfl rfl rfl rfl rfl ?_
            refine w_guard_no rfl 82 rfl rfl rfl rfl rfl ?_
            refine w_guard_no rfl 82 rfl rfl rfl rfl rfl ?_
            refine w_guard_no rfl 82 rfl rfl rfl rfl rfl ?_
            refine w_guard_no rfl 70 rfl rfl rfl rfl rfl ?_
            refine w_guard_no rfl 67 rfl rfl rfl rfl rfl ?_
            refine w_unguard 54 rfl rfl ?_
            refine w_pure (p_pick_true (u := .bool true) rfl rfl) rfl rfl rfl ?_
            exact w_sub (Sub.cons rfl (Sub.skip rfl (Sub.skip rfl (Sub.skip rfl (Sub.skip rfl (Sub.skip rfl (Sub.skip rfl (Sub.skip rfl (Sub.skip rfl (Sub.skip rfl (Sub.skip rfl (Sub.skip rfl (Sub.skip rfl (Sub.skip rfl (Sub.skip rfl (Sub.skip rfl (Sub.skip rfl (Sub.skip rfl (Sub.skip rfl (Sub.skip rfl (Sub.skip rfl (Sub.skip rfl (Sub.skip rfl (Sub.skip rfl (Sub.skip rfl (Sub.skip rfl (Sub.skip rfl (Sub.skip rfl (Sub.skip rfl (Sub.skip rfl (Sub.skip rfl (Sub.refl _)))))))))))))))))))))))))))))))) hk
          refine w_pure (p_pick_true (u := .bool (((((Ws.sizes l wd).length : Int) != (l.length : Int)) || decide (((Ws.sizes l wd).getD i default) < 1)) || (decide (0 < (i : Int)) && (decide (1 < (((Ws.sizes l wd).getD i default) - ((Ws.sizes l wd).getD (((i : Int) - 1).toNat) default))) || decide (1 < (((Ws.sizes l wd).getD (((i : Int) - 1).toNat) default) - ((Ws.sizes l wd).getD i default))))))) rfl rfl) rfl rfl rfl ?_
          exact w_sub (Sub.cons rfl (Sub.skip rfl (Sub.skip rfl (Sub.skip rfl (Sub.skip rfl (Sub.skip rfl (Sub.skip rfl (Sub.skip rfl (Sub.skip rfl (Sub.skip rfl (Sub.refl _))))))))))) hk
        · intro hb18 hk
          refine w_guard_no rfl 54 rfl rfl rfl rfl rfl ?_
          refine w_guard_no rfl 54 rfl rfl rfl rfl rfl ?_
          refine w_guard_no rfl 54 rfl rfl rfl rfl rfl ?_
          refine w_guard_no rfl 54 rfl rfl rfl rfl rfl ?_
          refine w_guard_no rfl 54 rfl rfl rfl rfl rfl ?_
          refine w_guard_no rfl 54 rfl rfl rfl rfl rfl ?_
          refine w_guard_no rfl 60 rfl rfl rfl rfl rfl ?_
          refine w_guard_no rfl 60 rfl rfl rfl rfl rfl ?_
          refine w_guard_no rfl 60 rfl rfl rfl rfl rfl ?_
          refine w_guard_no rfl 60 rfl rfl rfl rfl rfl ?_
          refine w_guard_no rfl 60 rfl rfl rfl rfl rfl ?_
          refine w_guard_no rfl 54 rfl rfl rfl rfl rfl ?_
          refine w_guard_no rfl 54 rfl rfl rfl rfl rfl ?_
          refine w_guard_no rfl 67 rfl rfl rfl rfl rfl ?_
          refine w_guard_no rfl 67 rfl rfl rfl rfl rfl ?_
          refine w_guard_no rfl 67 rfl rfl rfl rfl rfl ?_
          refine w_guard_no rfl 70 rfl rfl rfl rfl rfl ?_
          refine w_guard_no rfl 70 rfl rfl rfl rfl rfl ?_
          refine w_guard_no rfl 70 rfl rfl rfl rfl rfl ?_
          refine w_guard_no rfl 70 rfl rfl rfl rfl rfl ?_
          refine w_guard_no rfl 70 rfl rfl rfl rfl rfl ?_
          refine w_guard_no rfl 70 rfl rfl rfl rfl rfl ?_
          refine w_guard_no rfl 70 rfl rfl rfl rfl rfl ?_
          refine w_guard_no rfl 70 rfl rfl rfl rfl rfl ?_
          refine w_guard_no rfl 70 rfl rfl rfl rfl rfl ?_
          refine w_guard_no rfl 70 rfl rfl rfl rfl rfl ?_
          refine w_guard_no rfl 70 rfl rfl rfl rfl rfl ?_
          refine w_guard_no rfl 70 rfl rfl rfl rfl rfl ?_
          refine w_guard_no rfl 82 rfl rfl rfl rfl rfl ?_
          refine w_guard_no rfl 82 rfl rfl rfl rfl rfl ?_
          refine w_guard_no rfl 82 rfl rfl rfl rfl rfl ?_
          refine w_guard_no rfl 82 rfl rfl rfl rfl rfl ?_
          refine w_guard_no rfl 82 rfl rfl rfl rfl rfl ?_
          refine w_guard_no rfl 82 rfl rfl rfl rfl rfl ?_
          refine w_guard_no rfl 82 rfl rfl rfl rfl rfl ?_
          refine w_guard_no rfl 82 rfl rfl rfl rfl rfl ?_
          refine w_guard_no rfl 82 rfl rfl rfl rfl rfl ?_
          refine w_guard_no rfl 82 rfl rfl rfl rfl rfl ?_
          refine w_guard_no rfl 82 rfl rfl rfl rfl rfl ?_
          refine w_guard_no rfl 70 rfl rfl rfl rfl rfl ?_
          refine w_guard_no rfl 67 rfl rfl rfl rfl rfl ?_
          refine w_guard_no rfl 54 rfl rfl rfl rfl rfl ?_
          refine w_pure (p_pick_false (v := .bool false) rfl rfl) rfl rfl rfl ?_
          exact w_sub (Sub.cons rfl (Sub.skip rfl (Sub.skip rfl (Sub.skip rfl (Sub.skip rfl (Sub.skip rfl (Sub.skip rfl (Sub.skip rfl (Sub.skip rfl (Sub.skip rfl (Sub.skip rfl (Sub.skip rfl (Sub.skip rfl (Sub.skip rfl (Sub.skip rfl (Sub.skip rfl (Sub.skip rfl (Sub.skip rfl (Sub.skip rfl (Sub.skip rfl (Sub.skip rfl (Sub.skip rfl (Sub.skip rfl (Sub.skip rfl (Sub.skip rfl (Sub.skip rfl (Sub.skip rfl (Sub.skip rfl (Sub.skip rfl (Sub.skip rfl (Sub.skip rfl (Sub.skip rfl (Sub.skip rfl (Sub.skip rfl (Sub.skip rfl (Sub.skip rfl (Sub.skip rfl (Sub.skip rfl (Sub.skip rfl (Sub.skip rfl (Sub.skip rfl (Sub.skip rfl (Sub.skip rfl (Sub.skip rfl (Sub.skip rfl (Sub.refl _)))))))))))))))))))))))))))))))))))))))))))))) hk
        refine w_nil ?_
        refine q_then ?_
        refine c_cond (b := (((Ws.check l wd) == 0) && (((((Ws.sizes l wd).length : Int) != (l.length : Int)) || decide (((Ws.sizes l wd).getD i default) < 1)) || (decide (0 < (i : Int)) && (decide (1 < (((Ws.sizes l wd).getD i default) - ((Ws.sizes l wd).getD (((i : Int) - 1).toNat) default))) || decide (1 < (((Ws.sizes l wd).getD (((i : Int) - 1).toNat) default) - ((Ws.sizes l wd).getD i default)))))))) rfl (fun hc23 => ?_) (fun hc23 => ?_)
        · simp only [Bool.and_eq_true, beq_iff_eq, Bool.or_eq_true, bne_iff_ne, ne_eq, decide_eq_true_eq] at hc23
          exfalso; exact Ws.sz_no (l := l) (w := wd) (i := i) (by omega) hc23
        · simp only [Bool.and_eq_false_iff, beq_eq_false_iff_ne, ne_eq, Bool.or_eq_false_iff, bne_eq_false_iff_eq, decide_eq_false_iff_not, Int.not_lt] at hc23
          refine c_skip ?_
          refine q_block_normal (q_then ?_)
          refine c_region ?_
          refine o_pure (p_move (v := .int .i64 (i : Int)) rfl) rfl rfl rfl ?_
          refine o_pure (p_addb (p := (i : Int)) (q := 1) rfl rfl (by omega)) rfl rfl rfl ?_
          refine o_pure (p_assign (v := .int .i64 ((i : Int) + 1)) rfl) rfl rfl rfl ?_
          refine o_nil ?_
          refine q_round hK9 ((unlike ++ [(l.getD i default)]), a15, c16, S17, i + 1) ?_ ?_ ?_ ?_
          · clear hK9
            first | exact hI.add2 h200 (by omega) hch | exact hI.skip2 h200 (by omega) hch | exact hI.add h200 (by omega) hch | exact hI.skip h200 (by omega) hch
          · (try dsimp only); omega
          · exact Sub.cons rfl (Sub.cons rfl (Sub.cons rfl (Sub.cons rfl (Sub.cons rfl (Sub.cons rfl (Sub.nil _))))))
          · exact fun _ hw => HeapIs.pick hw [1, 2, 3] (by decide) rfl
      · simp only [Bool.not_eq_false'] at hc11
        have hch := hc11
        refine c_skip ?_
        refine q_then ?_
        refine c_seq ?_
        refine c_draw hmix (by kernel_rfl) ?_
        refine w_pure (p_move (v := .int .i64 (Ws.check l wd)) rfl) rfl rfl rfl ?_
        refine w_pure (p_eq (p := (Ws.check l wd)) (q := 0) rfl rfl) rfl rfl rfl ?_
        refine w_pure (p_move (v := .bool ((Ws.check l wd) == 0)) rfl) rfl rfl rfl ?_
        refine w_and (p := 97) 43 (((((Ws.sizes l wd).length : Int) != (l.length : Int)) || decide (((Ws.sizes l wd).getD i default) < 1)) || (decide (0 < (i : Int)) && (decide (1 < (((Ws.sizes l wd).getD i default) - ((Ws.sizes l wd).getD (((i : Int) - 1).toNat) default))) || decide (1 < (((Ws.sizes l wd).getD (((i : Int) - 1).toNat) default) - ((Ws.sizes l wd).getD i default)))))) ?_ ?_ ?_
        · intro hb24 hk
          simp only [beq_iff_eq] at hb24
          refine w_unguard 54 rfl rfl ?_
          refine w_pure (p_move (v := .slice a3 (Ws.sizes l wd).length c4) rfl) rfl rfl rfl ?_
          refine w_unguard 54 rfl rfl ?_
          refine w_pure (p_len_slice (len := (Ws.sizes l wd).length) rfl rfl Try.underlying45) rfl rfl rfl ?_
          refine w_unguard 54 rfl rfl ?_
          refine w_pure (p_move (v := .slice al l.length cl) rfl) rfl rfl rfl ?_
          refine w_unguard 54 rfl rfl ?_
          refine w_pure (p_len_slice (len := l.length) rfl rfl Try.underlying45) rfl rfl rfl ?_
          refine w_unguard 54 rfl rfl ?_
          refine w_pure (p_ne (p := ((Ws.sizes l wd).length : Int)) (q := (l.length : Int)) rfl rfl) rfl rfl rfl ?_
          refine w_unguard 54 rfl rfl ?_
          refine w_pure (p_move (v := .bool (((Ws.sizes l wd).length : Int) != (l.length : Int))) rfl) rfl rfl rfl ?_
          refine w_or (p := 66) 6 (decide (((Ws.sizes l wd).getD i default) < 1)) ?_ ?_ ?_
          · intro hb25 hk
            simp only [bne_eq_false_iff_eq] at hb25
            refine w_unguard 60 rfl rfl ?_
            refine w_pure (p_move (v := .slice a3 (Ws.sizes l wd).length c4) rfl) rfl rfl rfl ?_
            refine w_unguard 60 rfl rfl ?_
            refine w_pure (p_move (v := .int .i64 (i : Int)) rfl) rfl rfl rfl ?_
            refine w_unguard 60 rfl rfl ?_
            refine w_pure (p_indexAddr (L := (Ws.sizes l wd)) (T := tInt) (i := (i : Int)) rfl rfl (rd_own (i := 1) rfl) Try.underlying45 sz3 (by omega) (by omega)) rfl rfl rfl ?_
            refine w_unguard 60 rfl rfl ?_
            refine w_pure (p_loadE1 (i := i) (T := tInt) (L := (Ws.sizes l wd)) (v := .int .i64 ((Ws.sizes l wd).getD i default)) rfl (rd_own (i := 1) rfl) (by first | assumption | omega) sh3 (congrArg tInt.enc (getd_at (by first | assumption | omega) default))) rfl rfl rfl ?_
            refine w_unguard 60 rfl rfl ?_
            refine w_pure (p_lt (p := ((Ws.sizes l wd).getD i default)) (q := 1) rfl rfl) rfl rfl rfl ?_
            refine w_unguard 54 rfl rfl ?_
            refine w_pure (p_pick_false (v := .bool (decide (((Ws.sizes l wd).getD i default) < 1))) rfl rfl) rfl rfl rfl ?_
            exact w_sub (Sub.cons rfl (Sub.skip rfl (Sub.skip rfl (Sub.skip rfl (Sub.skip rfl (Sub.skip rfl (Sub.skip rfl (Sub.skip rfl (Sub.refl _))))))))) hk
          · intro hb25 hk
            refine w_guard_no rfl 60 rfl rfl rfl rfl rfl ?_
            refine w_guard_no rfl 60 rfl rfl rfl rfl rfl ?_
            refine w_guard_no rfl 60 rfl rfl rfl rfl rfl ?_
            refine w_guard_no rfl 60 rfl rfl rfl rfl rfl ?_
            refine w_guard_no rfl 60 rfl rfl rfl rfl rfl ?_
            refine w_unguard 54 rfl rfl ?_
            refine w_pure (p_pick_true (u := .bool true) rfl rfl) rfl rfl rfl ?_
            exact w_sub (Sub.cons rfl (Sub.skip rfl (Sub.skip rfl (Sub.skip rfl (Sub.skip rfl (Sub.skip rfl (Sub.skip rfl (Sub.skip rfl (Sub.refl _))))))))) hk
          refine w_unguard 54 rfl rfl ?_
          refine w_pure (p_move (v := .bool ((((Ws.sizes l wd).length : Int) != (l.length : Int)) || decide (((Ws.sizes l wd).getD i default) < 1))) rfl) rfl rfl rfl ?_
          refine w_or (p := 96) 29 (decide (0 < (i : Int)) && (decide (1 < (((Ws.sizes l wd).getD i default) - ((Ws.sizes l wd).getD (((i : Int) - 1).toNat) default))) || decide (1 < (((Ws.sizes l wd).getD (((i : Int) - 1).toNat) default) - ((Ws.sizes l wd).getD i default))))) ?_ ?_ ?_
          · intro hb26 hk
            simp only [Bool.or_eq_false_iff, bne_eq_false_iff_eq, decide_eq_false_iff_not, Int.not_lt] at hb26
            refine w_unguard 67 rfl rfl ?_
            refine w_pure (p_move (v := .int .i64 (i : Int)) rfl) rfl rfl rfl ?_
            refine w_unguard 67 rfl rfl ?_
            refine w_pure (p_gt (p := (i : Int)) (q := 0) rfl rfl) rfl rfl rfl ?_
            refine w_unguard 67 rfl rfl ?_
            refine w_pure (p_move (v := .bool (decide (0 < (i : Int)))) rfl) rfl rfl rfl ?_
            refine w_and (p := 95) 25 (decide (1 < (((Ws.sizes l wd).getD i default) - ((Ws.sizes l wd).getD (((i : Int) - 1).toNat) default))) || decide (1 < (((Ws.sizes l wd).getD (((i : Int) - 1).toNat) default) - ((Ws.sizes l wd).getD i default)))) ?_ ?_ ?_
            · intro hb27 hk
              simp only [decide_eq_true_eq] at hb27
              refine w_unguard 70 rfl rfl ?_
              refine w_pure (p_move (v := .slice a3 (Ws.sizes l wd).length c4) rfl) rfl rfl rfl ?_
              refine w_unguard 70 rfl rfl ?_
              refine w_pure (p_move (v := .int .i64 (i : Int)) rfl) rfl rfl rfl ?_
              refine w_unguard 70 rfl rfl ?_
              refine w_pure (p_indexAddr (L := (Ws.sizes l wd)) (T := tInt) (i := (i : Int)) rfl rfl (rd_own (i := 1) rfl) Try.underlying45 sz3 (by omega) (by omega)) rfl rfl rfl ?_
              refine w_unguard 70 rfl rfl ?_
              refine w_pure (p_loadE1 (i := i) (T := tInt) (L := (Ws.sizes l wd)) (v := .int .i64 ((Ws.sizes l wd).getD i default)) rfl (rd_own (i := 1) rfl) (by first | assumption | omega) sh3 (congrArg tInt.enc (getd_at (by first | assumption | omega) default))) rfl rfl rfl ?_
              refine w_unguard 70 rfl rfl ?_
              refine w_pure (p_move (v := .slice a3 (Ws.sizes l wd).length c4) rfl) rfl rfl rfl ?_
              refine w_unguard 70 rfl rfl ?_
              refine w_pure (p_move (v := .int .i64 (i : Int)) rfl) rfl rfl rfl ?_
              refine w_unguard 70 rfl rfl ?_
              refine w_pure (p_subb (p := (i : Int)) (q := 1) rfl rfl (by omega)) rfl rfl rfl ?_
              refine w_unguard 70 rfl rfl ?_
              refine w_pure (p_indexAddr (L := (Ws.sizes l wd)) (T := tInt) (i := ((i : Int) - 1)) rfl rfl (rd_own (i := 1) rfl) Try.underlying45 sz3 (by omega) (by omega)) rfl rfl rfl ?_
              refine w_unguard 70 rfl rfl ?_
              refine w_pure (p_loadE1 (i := ((i : Int) - 1).toNat) (T := tInt) (L := (Ws.sizes l wd)) (v := .int .i64 ((Ws.sizes l wd).getD (((i : Int) - 1).toNat) default)) rfl (rd_own (i := 1) rfl) (by first | assumption | omega) sh3 (congrArg tInt.enc (getd_at (by first | assumption | omega) default))) rfl rfl rfl ?_
              refine w_unguard 70 rfl rfl ?_
              refine w_pure (p_subb (p := ((Ws.sizes l wd).getD i default)) (q := ((Ws.sizes l wd).getD (((i : Int) - 1).toNat) default)) rfl rfl (by have b1 := Ws.sz_bd h200 wd i; have b2 := Ws.sz_bd h200 wd ((i : Int) - 1).toNat; omega)) rfl rfl rfl ?_
              refine w_unguard 70 rfl rfl ?_
              refine w_pure (p_gt (p := (((Ws.sizes l wd).getD i default) - ((Ws.sizes l wd).getD (((i : Int) - 1).toNat) default))) (q := 1) rfl rfl) rfl rfl rfl ?_
              refine w_unguard 70 rfl rfl ?_
              refine w_pure (p_move (v := .bool (decide (1 < (((Ws.sizes l wd).getD i default) - ((Ws.sizes l wd).getD (((i : Int) - 1).toNat) default))))) rfl) rfl rfl rfl ?_
              refine w_or (p := 94) 12 (decide (1 < (((Ws.sizes l wd).getD (((i : Int) - 1).toNat) default) - ((Ws.sizes l wd).getD i default)))) ?_ ?_ ?_
              · intro hb28 hk
                simp only [decide_eq_false_iff_not, Int.not_lt] at hb28
                refine w_unguard 82 rfl rfl ?_
                refine w_pure (p_move (v := .slice a3 (Ws.sizes l wd).length c4) rfl) rfl rfl rfl ?_
                refine w_unguard 82 rfl rfl ?_
                refine w_pure (p_move (v := .int .i64 (i : Int)) rfl) rfl rfl rfl ?_
                refine w_unguard 82 rfl rfl ?_
                refine w_pure (p_subb (p := (i : Int)) (q := 1) rfl rfl (by omega)) rfl rfl rfl ?_
                refine w_unguard 82 rfl rfl ?_
                refine w_pure (p_indexAddr (L := (Ws.sizes l wd)) (T := tInt) (i := ((i : Int) - 1)) rfl rfl (rd_own (i := 1) rfl) Try.underlying45 sz3 (by omega) (by omega)) rfl rfl rfl ?_
                refine w_unguard 82 rfl rfl ?_
                refine w_pure (p_loadE1 (i := ((i : Int) - 1).toNat) (T := tInt) (L := (Ws.sizes l wd)) (v := .int .i64 ((Ws.sizes l wd).getD (((i : Int) - 1).toNat) default)) rfl (rd_own (i := 1) rfl) (by first | assumption | omega) sh3 (congrArg tInt.enc (getd_at (by first | assumption | omega) default))) rfl rfl rfl ?_
                refine w_unguard 82 rfl rfl ?_
                refine w_pure (p_move (v := .slice a3 (Ws.sizes l wd).length c4) rfl) rfl rfl rfl ?_
                refine w_unguard 82 rfl rfl ?_
                refine w_pure (p_move (v := .int .i64 (i : Int)) rfl) rfl rfl rfl ?_
                refine w_unguard 82 rfl rfl ?_
                refine w_pure (p_indexAddr (L := (Ws.sizes l wd)) (T := tInt) (i := (i : Int)) rfl rfl (rd_own (i := 1) rfl) Try.underlying45 sz3 (by omega) (by omega)) rfl rfl rfl ?_
                refine w_unguard 82 rfl rfl ?_
                refine w_pure (p_loadE1 (i := i) (T := tInt) (L := (Ws.sizes l wd)) (v := .int .i64 ((Ws.sizes l wd).getD i default)) rfl (rd_own (i := 1) rfl) (by first | assumption | omega) sh3 (congrArg tInt.enc (getd_at (by first | assumption | omega) default))) rfl rfl rfl ?_
                refine w_unguard 82 rfl rfl ?_
                refine w_pure (p_subb (p := ((Ws.sizes l wd).getD (((i : Int) - 1).toNat) default)) (q := ((Ws.sizes l wd).getD i default)) rfl rfl (by have b1 := Ws.sz_bd h200 wd i; have b2 := Ws.sz_bd h200 wd ((i : Int) - 1).toNat; omega)) rfl rfl rfl ?_
                refine w_unguard 82 rfl rfl ?_
                refine w_pure (p_gt (p := (((Ws.sizes l wd).getD (((i : Int) - 1).toNat) default) - ((Ws.sizes l wd).getD i default))) (q := 1) rfl rfl) rfl rfl rfl ?_
                refine w_unguard 70 rfl rfl ?_
                refine w_pure (p_pick_false (v := .bool (decide (1 < (((Ws.sizes l wd).getD (((i : Int) - 1).toNat) default) - ((Ws.sizes l wd).getD i default))))) rfl rfl) rfl rfl rfl ?_
                exact w_sub (Sub.cons rfl (Sub.skip rfl (Sub.skip rfl (Sub.skip rfl (Sub.skip rfl (Sub.skip rfl (Sub.skip rfl (Sub.skip rfl (Sub.skip rfl (Sub.skip rfl (Sub.skip rfl (Sub.skip rfl (Sub.skip rfl (Sub.skip rfl (Sub.refl _))))))))))))))) hk
              · intro hb28 hk
                refine w_guard_no rfl 82 rfl rfl rfl rfl rfl ?_
                refine w_guard_no rfl 82 rfl rfl rfl rfl rfl ?_
                refine w_guard_no rfl 82 rfl rfl rfl rfl rfl ?_
                refine w_guard_no rfl 82 rfl rfl rfl rfl rfl ?_
                refine w_guard_no rfl 82 rfl rfl rfl rfl rfl ?_
                refine w_guard_no rfl 82 rfl rfl rfl rfl rfl ?_
                refine w_guard_no rfl 82 rfl rfl rfl rfl rfl ?_
                refine w_guard_no rfl 82 rfl rfl rfl rfl rfl ?_
                refine w_guard_no rfl 82 rfl rfl rfl rfl rfl ?_
                refine w_guard_no rfl 82 rfl rfl rfl rfl rfl ?_
                refine w_guard_no rfl 82 rfl rfl rfl rfl rfl ?_
                refine w_unguard 70 rfl rfl ?_
                refine w_pure (p_pick_true (u := .bool true) rfl rfl) rfl rfl rfl ?_
                exact w_sub (Sub.cons rfl (Sub.skip rfl (Sub.skip rfl (Sub.skip rfl (Sub.skip rfl (Sub.skip rfl (Sub.skip rfl (Sub.skip rfl (Sub.skip rfl (Sub.skip rfl (Sub.skip rfl (Sub.skip rfl (Sub.skip rfl (Sub.skip rfl (Sub.refl _))))))))))))))) hk
              refine w_unguard 67 rfl rfl ?_
              refine w_pure (p_pick_true (u := .bool (decide (1 < (((Ws.sizes l wd).getD i default) - ((Ws.sizes l wd).getD (((i : Int) - 1).toNat) default))) || decide (1 < (((Ws.sizes l wd).getD (((i : Int) - 1).toNat) default) - ((Ws.sizes l wd).getD i default))))) rfl rfl) rfl rfl rfl ?_
              exact w_sub (Sub.cons rfl (Sub.skip rfl (Sub.skip rfl (Sub.skip rfl (Sub.skip rfl (Sub.skip rfl (Sub.skip rfl (Sub.skip rfl (Sub.skip rfl (Sub.skip rfl (Sub.skip rfl (Sub.skip rfl (Sub.skip rfl (Sub.skip rfl (Sub.skip rfl (Sub.refl _)))))))))))))))) hk
            · intro hb27 hk
              refine w_guard_no rfl 70 rfl rfl rfl rfl rfl ?_
              refine w_guard_no rfl 70 rfl rfl rfl rfl rfl ?_
              refine w_guard_no rfl 70 rfl rfl rfl rfl rfl ?_
              refine w_guard_no rfl 70 rfl rfl rfl rfl rfl ?_
              refine w_guard_no rfl 70 rfl rfl rfl rfl rfl ?_
              refine w_guard_no rfl 70 rfl rfl rfl rfl rfl ?_
              refine w_guard_no rfl 70 rfl rfl rfl rfl rfl ?_
              refine w_guard_no rfl 70 rfl rfl rfl rfl rfl ?_
              refine w_guard_no rfl 70 rfl rfl rfl rfl rfl ?_
              refine w_guard_no rfl 70 rfl rfl rfl rfl rfl ?_
              refine w_guard_no rfl 70 rfl rfl rfl rfl rfl ?_
              refine w_guard_no rfl 70 rfl rfl rfl rfl rfl ?_
              refine w_guard_no rfl 82 rfl rfl rfl rfl rfl ?_
              refine w_guard_no rfl 82 rfl rfl rfl rfl rfl ?_
              refine w_guard_no rfl 82 rfl rfl rfl rfl rfl ?_
              refine w_guard_no rfl 82 rfl rfl rfl rfl rfl ?_
              refine w_guard_no rfl 82 rfl rfl rfl rfl rfl ?_
              refine w_guard_no rfl 82 rfl rfl rfl rfl rfl ?_
              refine w_guard_no rfl 82 rfl rfl rfl rfl rfl ?_
              refine w_guard_no rfl 82 rfl rfl rfl rfl rfl ?_
              refine w_guard_no rfl 82 rfl rfl rfl rfl rfl ?_
              refine w_guard_no rfl 82 rfl rfl rfl rfl rfl ?_
              refine w_guard_no rfl 82 rfl rfl rfl rfl rfl ?_
              refine w_guard_no rfl 70 rfl rfl rfl rfl rfl ?_
              refine w_unguard 67 rfl rfl ?_
              refine w_pure (p_pick_false (v := .bool false) rfl rfl) rfl rfl rfl ?_
              exact w_sub (Sub.cons rfl (Sub.skip rfl (Sub.skip rfl (Sub.skip rfl (Sub.skip rfl (Sub.skip rfl (Sub.skip rfl (Sub.skip rfl (Sub.skip rfl (Sub.skip rfl (Sub.skip rfl (Sub.skip rfl (Sub.skip rfl (Sub.skip rfl (Sub.skip rfl (Sub.skip rfl (Sub.skip rfl (Sub.skip rfl (Sub.skip rfl (Sub.skip rfl (Sub.skip rfl (Sub.skip rfl (Sub.skip rfl (Sub.skip rfl (Sub.skip rfl (Sub.skip rfl (Sub.skip rfl (Sub.refl _)))))))))))))))))))))))))))) hk
            refine w_unguard 54 rfl rfl ?_
            refine w_pure (p_pick_false (v := .bool (decide (0 < (i : Int)) && (decide (1 < (((Ws.sizes l wd).getD i default) - ((Ws.sizes l wd).getD (((i : Int) - 1).toNat) default))) || decide (1 < (((Ws.sizes l wd).getD (((i : Int) - 1).toNat) default) - ((Ws.sizes l wd).getD i default)))))) rfl rfl) rfl rfl rfl ?_
            exact w_sub (Sub.cons rfl (Sub.skip rfl (Sub.skip rfl (Sub.skip rfl (Sub.skip rfl (Sub.skip rfl (Sub.refl _))))))) hk
          · intro hb26 hk
            refine w_guard_no rfl 67 rfl rfl rfl rfl rfl ?_
            refine w_guard_no rfl 67 rfl rfl rfl rfl rfl ?_
            refine w_guard_no rfl 67 rfl rfl rfl rfl rfl ?_
            refine w_guard_no rfl 70 rfl rfl rfl rfl rfl ?_
            refine w_guard_no rfl 70 rfl rfl rfl rfl rfl ?_
            refine w_guard_no rfl 70 rfl rfl rfl rfl rfl ?_
            refine w_guard_no rfl 70 rfl rfl rfl rfl rfl ?_
            refine w_guard_no rfl 70 rfl rfl rfl rfl rfl ?_
            refine w_guard_no rfl 70 rfl rfl rfl rfl rfl ?_
            refine w_guard_no rfl 70 rfl rfl rfl rfl rfl ?_
            refine w_guard_no rfl 70 rfl rfl rfl rfl rfl ?_
            refine w_guard_no rfl 70 rfl rfl rfl rfl rfl ?_
            refine w_guard_no rfl 70 rfl rfl rfl rfl rfl ?_
            refine w_guard_no rfl 70 rfl rfl rfl rfl rfl ?_
            refine w_guard_no rfl 70 rfl rfl rfl rfl rfl ?_
            refine w_guard_no rfl 82 rfl rfl rfl rfl rfl ?_
            refine w_guard_no rfl 82 rfl rfl rfl rfl rfl ?_
            refine w_guard_no rfl 82 rfl rfl rfl rfl rfl ?_
            refine w_guard_no rfl 82 rfl rfl rfl rfl rfl ?_
            refine w_guard_no rfl 82 rfl rfl rfl rfl rfl ?_
            refine w_guard_no rfl 82 rfl rfl rfl rfl rfl ?_
            refine w_guard_no rfl 82 rfl rfl rfl rfl rfl ?_
            refine w_guard_no rfl 82 rfl rfl rfl rfl rfl ?_
            refine w_guard_no rfl 82 rfl rfl rfl rfl rfl ?_
            refine w_guard_no rfl 82 rfl rfl rfl rfl rfl ?_
            refine w_guard_no rfl 82 rfl rfl rfl rfl rfl ?_
            refine w_guard_no rfl 70 rfl rfl rfl rfl rfl ?_
            refine w_guard_no rfl 67 rfl rfl rfl rfl rfl ?_
            refine w_unguard 54 rfl rfl ?_
            refine w_pure (p_pick_true (u := .bool true) rfl rfl) rfl rfl rfl ?_
            exact w_sub (Sub.cons rfl (Sub.skip rfl (Sub.skip rfl (Sub.skip rfl (Sub.skip rfl (Sub.skip rfl (Sub.skip rfl (Sub.skip rfl (Sub.skip rfl (Sub.skip rfl (Sub.skip rfl (Sub.skip rfl (Sub.skip rfl (Sub.skip rfl (Sub.skip rfl (Sub.skip rfl (Sub.skip rfl (Sub.skip rfl (Sub.skip rfl (Sub.skip rfl (Sub.skip rfl (Sub.skip rfl (Sub.skip rfl (Sub.skip rfl (Sub.skip rfl (Sub.skip rfl (Sub.skip rfl (Sub.skip rfl (Sub.skip rfl (Sub.skip rfl (Sub.skip rfl (Sub.refl _)))))))))))))))))))))))))))))))) hk
          refine w_pure (p_pick_true (u := .bool (((((Ws.sizes l wd).length : Int) != (l.length : Int)) || decide (((Ws.sizes l wd).getD i default) < 1)) || (decide (0 < (i : Int)) && (decide (1 < (((Ws.sizes l wd).getD i default) - ((Ws.sizes l wd).getD (((i : Int) - 1).toNat) default))) || decide (1 < (((Ws.sizes l wd).getD (((i : Int) - 1).toNat) default) - ((Ws.sizes l wd).getD i default))))))) rfl rfl) rfl rfl rfl ?_
          exact w_sub (Sub.cons rfl (Sub.skip rfl (Sub.skip rfl (Sub.skip rfl (Sub.skip rfl (Sub.skip rfl (Sub.skip rfl (Sub.skip rfl (Sub.skip rfl (Sub.skip rfl (Sub.refl _))))))))))) hk
        · intro hb24 hk
          refine w_guard_no rfl 54 rfl rfl rfl rfl rfl ?_
          refine w_guard_no rfl 54 rfl rfl rfl rfl rfl ?_
          refine w_guard_no rfl 54 rfl rfl rfl rfl rfl ?_
          refine w_guard_no rfl 54 rfl rfl rfl rfl rfl ?_
          refine w_guard_no rfl 54 rfl rfl rfl rfl rfl ?_
          refine w_guard_no rfl 54 rfl rfl rfl rfl rfl ?_
          refine w_guard_no rfl 60 rfl rfl rfl rfl rfl ?_
          refine w_guard_no rfl 60 rfl rfl rfl rfl rfl ?_
          refine w_guard_no rfl 60 rfl rfl rfl rfl rfl ?_
          refine w_guard_no rfl 60 rfl rfl rfl rfl rfl ?_
          refine w_guard_no rfl 60 rfl rfl rfl rfl rfl ?_
          refine w_guard_no rfl 54 rfl rfl rfl rfl rfl ?_
          refine w_guard_no rfl 54 rfl rfl rfl rfl rfl ?_
          refine w_guard_no rfl 67 rfl rfl rfl rfl rfl ?_
          refine w_guard_no rfl 67 rfl rfl rfl rfl rfl ?_
          refine w_guard_no rfl 67 rfl rfl rfl rfl rfl ?_
          refine w_guard_no rfl 70 rfl rfl rfl rfl rfl ?_
          refine w_guard_no rfl 70 rfl rfl rfl rfl rfl ?_
          refine w_guard_no rfl 70 rfl rfl rfl rfl rfl ?_
          refine w_guard_no rfl 70 rfl rfl rfl rfl rfl ?_
          refine w_guard_no rfl 70 rfl rfl rfl rfl rfl ?_
          refine w_guard_no rfl 70 rfl rfl rfl rfl rfl ?_
          refine w_guard_no rfl 70 rfl rfl rfl rfl rfl ?_
          refine w_guard_no rfl 70 rfl rfl rfl rfl rfl ?_
          refine w_guard_no rfl 70 rfl rfl rfl rfl rfl ?_
          refine w_guard_no rfl 70 rfl rfl rfl rfl rfl ?_
          refine w_guard_no rfl 70 rfl rfl rfl rfl rfl ?_
          refine w_guard_no rfl 70 rfl rfl rfl rfl rfl ?_
          refine w_guard_no rfl 82 rfl rfl rfl rfl rfl ?_
          refine w_guard_no rfl 82 rfl rfl rfl rfl rfl ?_
          refine w_guard_no rfl 82 rfl rfl rfl rfl rfl ?_
          refine w_guard_no rfl 82 rfl rfl rfl rfl rfl ?_
          refine w_guard_no rfl 82 rfl rfl rfl rfl rfl ?_
          refine w_guard_no rfl 82 rfl rfl rfl rfl rfl ?_
          refine w_guard_no rfl 82 rfl rfl rfl rfl rfl ?_
          refine w_guard_no rfl 82 rfl rfl rfl rfl rfl ?_
          refine w_guard_no rfl 82 rfl rfl rfl rfl rfl ?_
          refine w_guard_no rfl 82 rfl rfl rfl rfl rfl ?_
          refine w_guard_no rfl 82 rfl rfl rfl rfl rfl ?_
          refine w_guard_no rfl 70 rfl rfl rfl rfl rfl ?_
          refine w_guard_no rfl 67 rfl rfl rfl rfl rfl ?_
          refine w_guard_no rfl 54 rfl rfl rfl rfl rfl ?_
          refine w_pure (p_pick_false (v := .bool false) rfl rfl) rfl rfl rfl ?_
          exact w_sub (Sub.cons rfl (Sub.skip rfl (Sub.skip rfl (Sub.skip rfl (Sub.skip rfl (Sub.skip rfl (Sub.skip rfl (Sub.skip rfl (Sub.skip rfl (Sub.skip rfl (Sub.skip rfl (Sub.skip rfl (Sub.skip rfl (Sub.skip rfl (Sub.skip rfl (Sub.skip rfl (Sub.skip rfl (Sub.skip rfl (Sub.skip rfl (Sub.skip rfl (Sub.skip rfl (Sub.skip rfl (Sub.skip rfl (Sub.skip rfl (Sub.skip rfl (Sub.skip rfl (Sub.skip rfl (Sub.skip rfl (Sub.skip rfl (Sub.skip rfl (Sub.skip rfl (Sub.skip rfl (Sub.skip rfl (Sub.skip rfl (Sub.skip rfl (Sub.skip rfl (Sub.skip rfl (Sub.skip rfl (Sub.skip rfl (Sub.skip rfl (Sub.skip rfl (Sub.skip rfl (Sub.skip rfl (Sub.skip rfl (Sub.skip rfl (Sub.refl _)))))))))))))))))))))))))))))))))))))))))))))) hk
        refine w_nil ?_
        refine q_then ?_
        refine c_cond (b := (((Ws.check l wd) == 0) && (((((Ws.sizes l wd).length : Int) != (l.length : Int)) || decide (((Ws.sizes l wd).getD i default) < 1)) || (decide (0 < (i : Int)) && (decide (1 < (((Ws.sizes l wd).getD i default) - ((Ws.sizes l wd).getD (((i : Int) - 1).toNat) default))) || decide (1 < (((Ws.sizes l wd).getD (((i : Int) - 1).toNat) default) - ((Ws.sizes l wd).getD i default)))))))) rfl (fun hc29 => ?_) (fun hc29 => ?_)
        · simp only [Bool.and_eq_true, beq_iff_eq, Bool.or_eq_true, bne_iff_ne, ne_eq, decide_eq_true_eq] at hc29
          exfalso; exact Ws.sz_no (l := l) (w := wd) (i := i) (by omega) hc29
        · simp only [Bool.and_eq_false_iff, beq_eq_false_iff_ne, ne_eq, Bool.or_eq_false_iff, bne_eq_false_iff_eq, decide_eq_false_iff_not, Int.not_lt] at hc29
          refine c_skip ?_
          refine q_block_normal (q_then ?_)
          refine c_region ?_
          refine o_pure (p_move (v := .int .i64 (i : Int)) rfl) rfl rfl rfl ?_
          refine o_pure (p_addb (p := (i : Int)) (q := 1) rfl rfl (by omega)) rfl rfl rfl ?_
          refine o_pure (p_assign (v := .int .i64 ((i : Int) + 1)) rfl) rfl rfl rfl ?_
          refine o_nil ?_
          refine q_round hK9 (unlike, aunlike, cunlike, Sunlike, i + 1) ?_ ?_ ?_ ?_
          · clear hK9
            first | exact hI.add2 h200 (by omega) hch | exact hI.skip2 h200 (by omega) hch | exact hI.add h200 (by omega) hch | exact hI.skip h200 (by omega) hch
          · (try dsimp only); omega
          · exact Sub.cons rfl (Sub.cons rfl (Sub.cons rfl (Sub.cons rfl (Sub.cons rfl (Sub.cons rfl (Sub.nil _))))))
          · exact fun _ hw => HeapIs.pick hw [0, 1, 2] (by decide) rfl
    · simp only [decide_eq_false_iff_not, Int.not_lt] at hc10
      refine c_exit ?_
      refine q_then_exit (q_then_exit (q_block_exit (q_then ?_)))
      refine c_seq ?_
      refine c_region ?_
      refine o_pure (p_move (v := .int .i64 (Ws.faults l (200 : Int))) rfl) rfl rfl rfl ?_
      refine o_pure (p_move (v := .slice aunlike unlike.length cunlike) rfl) rfl rfl rfl ?_
      refine o_pure (p_len_slice (len := unlike.length) rfl rfl Try.underlying45) rfl rfl rfl ?_
      refine o_pure (p_eq (p := (Ws.faults l (200 : Int))) (q := (unlike.length : Int)) rfl rfl) rfl rfl rfl ?_
      refine o_pure (p_assign (v := .bool ((Ws.faults l (200 : Int)) == (unlike.length : Int))) rfl) rfl rfl rfl ?_
      refine o_nil ?_
      refine q_then ?_
      refine c_ret ?_
      have hr0 : (((Ws.faults l (200 : Int)) == (unlike.length : Int)) : Bool) = true := by
        first | rfl | exact hbb | (rw [hI.done (by omega) hck]; exact beq_self_eq_true _)
      refine q_end0 (v := .bool ((Ws.faults l (200 : Int)) == (unlike.length : Int))) (rt1 rfl (r_tmp rfl)) (i := 2) rfl ?_
      exact (by have hcc := congrArg (fun (y0 : Bool) => (.bool y0 : Value)) hr0; exact hcc)
end Go.Proofs.Ythecfjipaepcgaa
