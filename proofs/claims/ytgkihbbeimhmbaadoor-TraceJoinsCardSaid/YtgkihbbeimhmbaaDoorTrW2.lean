/- The walks, printed by a program from the translation and a specification. -/
import Derived.Test.YtgkihbbeimhmbaaDoorTrF
import Derived.Test.YtgkihbbeimhmbaaDoorTrLaw7
import Derived.Test.YtgkihbbeimhmbaaDoorTrW1
namespace Go.Proofs.YtgkihbbeimhmbaaDoor
open Go.Sx Go.RowKit
set_option maxHeartbeats 8000000 in
set_option maxRecDepth 100000 in
theorem tclip_ok (l : List Int) (al : Option Addr) (cl : Nat) (Sl : Nat → Prop) : FnX Tryd.prog 21 [.slice al l.length cl] [own tInt Sl al cl l] (fun _ => True) (Option Addr × Nat × (Nat → Prop)) (fun p => .slice p.1 l.length p.2.1) (fun p => [own tInt p.2.2 p.1 p.2.1 l]) := by
  refine fnX (nt := 9) (F0 := [(0, .slice al l.length cl)]) Tryd.func21 rfl Tryd.ntmps21 rfl rfl (fun w0 hpre => ?_)
  refine c_know (fun w hw => own_len (i := 1) (T := tInt) hw rfl) (fun hlown_l => ?_)
  obtain ⟨hcown_l, hlown_l⟩ := hlown_l
  refine c_seq ?_
  refine c_region ?_
  refine o_pure (p_assign (v := .slice none 0 0) rfl) rfl rfl rfl ?_
  refine o_nil ?_
  refine q_then ?_
  refine c_seq ?_
  refine c_region ?_
  refine o_pure (p_move (v := .slice al l.length cl) rfl) rfl rfl rfl ?_
  refine o_pure (p_move (v := .slice al l.length cl) rfl) rfl rfl rfl ?_
  refine o_pure (p_len_slice (len := l.length) rfl rfl Tryd.underlying22) rfl rfl rfl ?_
  refine o_pure (p_move (v := .slice al l.length cl) rfl) rfl rfl rfl ?_
  refine o_pure (p_len_slice (len := l.length) rfl rfl Tryd.underlying22) rfl rfl rfl ?_
  refine o_pure (p_sliceHM (L := l) (T := tInt) (h := (l.length : Int)) (m := (l.length : Int)) rfl rfl rfl Tryd.underlying22 sz3 (by omega) (by omega) (by omega) (rd_own (i := 1) rfl)) rfl rfl rfl ?_
  refine o_pure (p_assign (v := .slice al (l.take ((l.length : Int).toNat)).length ((l.length : Int).toNat)) rfl) rfl rfl rfl ?_
  refine o_nil ?_
  refine q_then ?_
  refine c_ret ?_
  refine q_shrinkM (i := 1) (hi := (l.length : Int).toNat) (m := (l.length : Int).toNat) (T := tInt) rfl (by omega) (by omega) ?_
  have hr0 : ((l.take ((l.length : Int).toNat)) : List Int) = l := by
    first | rfl | simp
  refine q_endX (p := (al, (l.length : Int).toNat, Sl)) (rt1 rfl (r_tmp rfl)) ?_ (fun w hw => ?_)
  · exact (by have hcc := congrArg (fun (y0 : List Int) => (.slice al y0.length ((l.length : Int).toNat) : Value)) hr0; exact hcc)
  · have h2 := hw.pick (H' := [outer w0 [own tInt Sl al cl l], own tInt Sl al ((l.length : Int).toNat) (l.take ((l.length : Int).toNat))]) [0, 1] (by decide) rfl
    exact Eq.mp (congrArg (fun z => HeapIs w0 ((outer w0 [own tInt Sl al cl l]) :: z) w) ((by have hcc := congrArg (fun (y0 : List Int) => ([own tInt Sl al ((l.length : Int).toNat) y0] : List Ent)) hr0; exact hcc))) h2

set_option maxHeartbeats 8000000 in
set_option maxRecDepth 100000 in
theorem tparse_ok (s : ByteArray) : FnM Tryd.prog 8 [.string s] (fun w => MaxW w) (Option Addr × Nat) (fun p => .tuple #[.slice p.1 ((Trc.parse s).1).length p.2, .int .i64 ((Trc.parse s).2)]) (fun p S w => SlO tInt S w p.1 p.2 ((Trc.parse s).1)) := by
  refine fnM (nt := 61) (F0 := [(0, .string s)]) Tryd.func8 rfl Tryd.ntmps8 rfl rfl (fun w0 hpre => ?_)
  have hMaxW := hpre
  refine c_seq ?_
  refine c_region ?_
  refine o_pure (p_assign (v := .slice none 0 0) rfl) rfl rfl rfl ?_
  refine o_pure (p_assign (v := .int .i64 0) rfl) rfl rfl rfl ?_
  refine o_nil ?_
  refine q_then ?_
  refine c_seq ?_
  refine c_block ?_
  refine c_seq ?_
  refine c_region ?_
  refine o_pure (p_move (v := .string s) rfl) rfl rfl rfl ?_
  refine o_pure (p_len_string rfl rfl Tryd.underlying9) rfl rfl rfl ?_
  refine o_pure (p_gt (p := (s.size : Int)) (q := 2000) rfl rfl) rfl rfl rfl ?_
  refine o_pure (p_assign (v := .bool (decide (2000 < (s.size : Int)))) rfl) rfl rfl rfl ?_
  refine o_nil ?_
  refine q_then ?_
  refine c_cond (b := decide (2000 < (s.size : Int))) rfl (fun hc1 => ?_) (fun hc1 => ?_)
  · simp only [decide_eq_true_eq] at hc1
    have hend := Trc.parse_big hc1
    refine c_seq ?_
    refine c_region ?_
    refine o_pure (p_assign (v := .slice none 0 0) rfl) rfl rfl rfl ?_
    refine o_pure (p_assign (v := .int .i64 2) rfl) rfl rfl rfl ?_
    refine o_nil ?_
    refine q_then ?_
    refine c_ret ?_
    refine q_block_ret (q_then_ret ?_)
    have hr0 : ([] : List Int) = ((Trc.parse s).1) := by
      first | exact hend.1 | exact hend.2
    have hr1 : (2 : Int) = ((Trc.parse s).2) := by
      first | exact hend.1 | exact hend.2
    refine q_endM (p := (none, 0)) (fun _ => False) (rt2 rfl (r_tmp rfl) (r_tmp rfl)) (i := 0) rfl ?_ ?_ ?_
    · exact (by have hcc := congr (congrArg (fun (y0 : List Int) (y1 : Int) => (.tuple #[.slice none y0.length 0, .int .i64 y1] : Value)) hr0) hr1; exact hcc)
    · intro w hw b hb; exact hb.elim
    · intro w hw; exact Eq.mp (congrArg (fun y => SlO tInt _ w none 0 y) hr0) (SlO.nil tInt w)
  · simp only [decide_eq_false_iff_not, Int.not_lt] at hc1
    have hsz := hc1
    refine c_seq ?_
    refine c_region ?_
    refine o_pure (p_move (v := .string s) rfl) rfl rfl rfl ?_
    refine o_pure (p_eqStr (s := s) (t := (ByteArray.mk #[])) rfl rfl) rfl rfl rfl ?_
    refine o_pure (p_assign (v := .bool (decide (s = (ByteArray.mk #[])))) rfl) rfl rfl rfl ?_
    refine o_nil ?_
    refine q_then ?_
    refine c_cond (b := decide (s = (ByteArray.mk #[]))) rfl (fun hc2 => ?_) (fun hc2 => ?_)
    · simp only [decide_eq_true_eq] at hc2
      have hend := Trc.parse_none hc2
      refine c_seq ?_
      refine c_region ?_
      refine o_pure (p_assign (v := .slice none 0 0) rfl) rfl rfl rfl ?_
      refine o_pure (p_assign (v := .int .i64 0) rfl) rfl rfl rfl ?_
      refine o_nil ?_
      refine q_then ?_
      refine c_ret ?_
      refine q_block_ret (q_then_ret ?_)
      have hr0 : ([] : List Int) = ((Trc.parse s).1) := by
        first | exact hend.1 | exact hend.2
      have hr1 : (0 : Int) = ((Trc.parse s).2) := by
        first | exact hend.1 | exact hend.2
      refine q_endM (p := (none, 0)) (fun _ => False) (rt2 rfl (r_tmp rfl) (r_tmp rfl)) (i := 0) rfl ?_ ?_ ?_
      · exact (by have hcc := congr (congrArg (fun (y0 : List Int) (y1 : Int) => (.tuple #[.slice none y0.length 0, .int .i64 y1] : Value)) hr0) hr1; exact hcc)
      · intro w hw b hb; exact hb.elim
      · intro w hw; exact Eq.mp (congrArg (fun y => SlO tInt _ w none 0 y) hr0) (SlO.nil tInt w)
    · simp only [decide_eq_false_iff_not] at hc2
      have hne := hc2
      refine c_skip ?_
      refine q_block_normal (q_then ?_)
      refine c_seq ?_
      refine c_region ?_
      refine o_pure (p_assign (v := .slice none 0 0) rfl) rfl rfl rfl ?_
      refine o_nil ?_
      refine q_then ?_
      refine c_seq ?_
      refine c_seq ?_
      refine c_region ?_
      refine o_pure (p_move (v := .string s) rfl) rfl rfl rfl ?_
      refine o_callM rfl (ksplit_ok s (ByteArray.mk #[32]) (by omega) (rfl)) hf19 (fun w hw => pre_base (i := 0) rfl MaxW_st hMaxW w hw) rfl (fun _ _ _ _ ha hA => SlO.agree ha hA) ?_
      rintro ⟨a5, c6⟩ S3
      refine o_know (fun w hw => own_len (i := 0) (T := tStr) hw rfl) (fun hlr7 => ?_)
      refine o_pure (p_len_slice (len := (Trc.words s).length) rfl rfl Tryd.underlying37) rfl rfl rfl ?_
      refine o_pure (p_move (v := .int .i64 0) rfl) rfl rfl rfl ?_
      refine o_nil ?_
      refine q_then ?_
      refine c_block ?_
      refine c_ownNil tInt ?_
      refine c_loop (St := List Int × Option Addr × Nat × (Nat → Prop) × Nat)
        (fun ⟨out, aout, cout, Sout, k⟩ => [(4, .slice aout out.length cout), (20, .slice a5 (Trc.words s).length c6), (21, .int .i64 ((Trc.words s).length : Int)), (22, .int .i64 (k : Int))])
        (fun ⟨out, aout, cout, Sout, k⟩ => [own tInt Sout aout cout out, own tStr S3 a5 c6 (Trc.words s), base w0])
        (fun ⟨out, aout, cout, Sout, k⟩ => Trc.PI s out k)
        (fun ⟨out, aout, cout, Sout, k⟩ => (Trc.words s).length - k)
        ([], none, 0, (fun _ => False), 0) ?_ (Sub.cons rfl (Sub.cons rfl (Sub.cons rfl (Sub.cons rfl (Sub.nil _))))) (fun _ hw => hw) ?_
      · exact Trc.PI.start hsz hne
      rintro ⟨out, aout, cout, Sout, k⟩ hI K hK9
      have hle := hI.le
      have hlo := hI.len
      have hws := Trc.word_size s k
      have hkb := Trc.pKey_bd ((Trc.words s).getD k default)
      show SC _ _ Tryd.prog 61 w0 _ _ [(4, .slice aout out.length cout), (20, .slice a5 (Trc.words s).length c6), (21, .int .i64 ((Trc.words s).length : Int)), (22, .int .i64 (k : Int))] [own tInt Sout aout cout out, own tStr S3 a5 c6 (Trc.words s), base w0]
      refine c_seq ?_
      refine c_region ?_
      refine o_pure (p_lt (p := (k : Int)) (q := ((Trc.words s).length : Int)) rfl rfl) rfl rfl rfl ?_
      refine o_nil ?_
      refine q_then ?_
      refine c_seq ?_
      refine c_cond (b := decide ((k : Int) < ((Trc.words s).length : Int))) rfl (fun hc10 => ?_) (fun hc10 => ?_)
      · simp only [decide_eq_true_eq] at hc10
        refine c_skip ?_
        refine q_then ?_
        refine c_seq ?_
        refine c_block ?_
        refine c_seq ?_
        refine c_region ?_
        refine o_pure (p_indexAddr (L := (Trc.words s)) (T := tStr) (i := (k : Int)) rfl rfl (rd_own (i := 1) rfl) Tryd.underlying37 sz9 (by omega) (by omega)) rfl rfl rfl ?_
        refine o_pure (p_loadE1 (i := k) (T := tStr) (L := (Trc.words s)) (v := .string ((Trc.words s).getD k default)) rfl (rd_own (i := 1) rfl) (by first | assumption | omega) sh9 (congrArg tStr.enc (getd_at (by first | assumption | omega) default))) rfl rfl rfl ?_
        refine o_pure (p_assign (v := .string ((Trc.words s).getD k default)) rfl) rfl rfl rfl ?_
        refine o_nil ?_
        refine q_then ?_
        refine c_seq ?_
        refine c_region ?_
        refine o_pure (p_move (v := .string ((Trc.words s).getD k default)) rfl) rfl rfl rfl ?_
        refine o_call0 (v := .tuple #[.int .i64 (Trc.pKey ((Trc.words s).getD k default)), .int .i64 (Trc.pBy ((Trc.words s).getD k default)), .int .i64 (Trc.pMany ((Trc.words s).getD k default)), .int .i64 (Trc.pErr ((Trc.words s).getD k default))]) rfl (tpiece_ok ((Trc.words s).getD k default) (by first | assumption | omega)) hf20 (fun _ _ => trivial) rfl ?_
        refine o_pure (p_move (v := .tuple #[.int .i64 (Trc.pKey ((Trc.words s).getD k default)), .int .i64 (Trc.pBy ((Trc.words s).getD k default)), .int .i64 (Trc.pMany ((Trc.words s).getD k default)), .int .i64 (Trc.pErr ((Trc.words s).getD k default))]) rfl) rfl rfl rfl ?_
        refine o_pure (p_extract (vs := [.int .i64 (Trc.pKey ((Trc.words s).getD k default)), .int .i64 (Trc.pBy ((Trc.words s).getD k default)), .int .i64 (Trc.pMany ((Trc.words s).getD k default)), .int .i64 (Trc.pErr ((Trc.words s).getD k default))]) (v := .int .i64 (Trc.pKey ((Trc.words s).getD k default))) rfl rfl) rfl rfl rfl ?_
        refine o_pure (p_extract (vs := [.int .i64 (Trc.pKey ((Trc.words s).getD k default)), .int .i64 (Trc.pBy ((Trc.words s).getD k default)), .int .i64 (Trc.pMany ((Trc.words s).getD k default)), .int .i64 (Trc.pErr ((Trc.words s).getD k default))]) (v := .int .i64 (Trc.pBy ((Trc.words s).getD k default))) rfl rfl) rfl rfl rfl ?_
        refine o_pure (p_extract (vs := [.int .i64 (Trc.pKey ((Trc.words s).getD k default)), .int .i64 (Trc.pBy ((Trc.words s).getD k default)), .int .i64 (Trc.pMany ((Trc.words s).getD k default)), .int .i64 (Trc.pErr ((Trc.words s).getD k default))]) (v := .int .i64 (Trc.pMany ((Trc.words s).getD k default))) rfl rfl) rfl rfl rfl ?_
        refine o_pure (p_extract (vs := [.int .i64 (Trc.pKey ((Trc.words s).getD k default)), .int .i64 (Trc.pBy ((Trc.words s).getD k default)), .int .i64 (Trc.pMany ((Trc.words s).getD k default)), .int .i64 (Trc.pErr ((Trc.words s).getD k default))]) (v := .int .i64 (Trc.pErr ((Trc.words s).getD k default))) rfl rfl) rfl rfl rfl ?_
        refine o_pure (p_assign (v := .int .i64 (Trc.pKey ((Trc.words s).getD k default))) rfl) rfl rfl rfl ?_
        refine o_pure (p_assign (v := .int .i64 (Trc.pBy ((Trc.words s).getD k default))) rfl) rfl rfl rfl ?_
        refine o_pure (p_assign (v := .int .i64 (Trc.pMany ((Trc.words s).getD k default))) rfl) rfl rfl rfl ?_
        refine o_pure (p_assign (v := .int .i64 (Trc.pErr ((Trc.words s).getD k default))) rfl) rfl rfl rfl ?_
        refine o_nil ?_
        refine q_then ?_
        refine c_seq ?_
        refine c_seq ?_
        refine c_region ?_
        refine o_pure (p_move (v := .int .i64 (Trc.pErr ((Trc.words s).getD k default))) rfl) rfl rfl rfl ?_
        refine o_pure (p_eq (p := (Trc.pErr ((Trc.words s).getD k default))) (q := 0) rfl rfl) rfl rfl rfl ?_
        refine o_pure (p_move (v := .bool ((Trc.pErr ((Trc.words s).getD k default)) == 0)) rfl) rfl rfl rfl ?_
        refine o_and (p := 41) 6 (decide (200 < ((out.length : Int) + (Trc.pMany ((Trc.words s).getD k default))))) ?_ ?_ ?_
        · intro hb11 hk
          simp only [beq_iff_eq] at hb11
          refine o_unguard 35 rfl rfl ?_
          refine o_pure (p_move (v := .slice aout out.length cout) rfl) rfl rfl rfl ?_
          refine o_unguard 35 rfl rfl ?_
          refine o_pure (p_len_slice (len := out.length) rfl rfl Tryd.underlying22) rfl rfl rfl ?_
          refine o_unguard 35 rfl rfl ?_
          refine o_pure (p_move (v := .int .i64 (Trc.pMany ((Trc.words s).getD k default))) rfl) rfl rfl rfl ?_
          refine o_unguard 35 rfl rfl ?_
          refine o_pure (p_addb (p := (out.length : Int)) (q := (Trc.pMany ((Trc.words s).getD k default))) rfl rfl (by omega)) rfl rfl rfl ?_
          refine o_unguard 35 rfl rfl ?_
          refine o_pure (p_gt (p := ((out.length : Int) + (Trc.pMany ((Trc.words s).getD k default)))) (q := 200) rfl rfl) rfl rfl rfl ?_
          refine o_pure (p_pick_true (u := .bool (decide (200 < ((out.length : Int) + (Trc.pMany ((Trc.words s).getD k default)))))) rfl rfl) rfl rfl rfl ?_
          exact o_sub (Sub.cons rfl (Sub.skip rfl (Sub.skip rfl (Sub.skip rfl (Sub.skip rfl (Sub.skip rfl (Sub.skip rfl (Sub.skip rfl (Sub.refl _))))))))) hk
        · intro hb11 hk
          refine o_guard_no rfl 35 rfl rfl rfl rfl rfl ?_
          refine o_guard_no rfl 35 rfl rfl rfl rfl rfl ?_
          refine o_guard_no rfl 35 rfl rfl rfl rfl rfl ?_
          refine o_guard_no rfl 35 rfl rfl rfl rfl rfl ?_
          refine o_guard_no rfl 35 rfl rfl rfl rfl rfl ?_
          refine o_pure (p_pick_false (v := .bool false) rfl rfl) rfl rfl rfl ?_
          exact o_sub (Sub.cons rfl (Sub.skip rfl (Sub.skip rfl (Sub.skip rfl (Sub.skip rfl (Sub.skip rfl (Sub.skip rfl (Sub.skip rfl (Sub.refl _))))))))) hk
        refine o_nil ?_
        refine q_then ?_
        refine c_cond (b := (((Trc.pErr ((Trc.words s).getD k default)) == 0) && decide (200 < ((out.length : Int) + (Trc.pMany ((Trc.words s).getD k default)))))) rfl (fun hc12 => ?_) (fun hc12 => ?_)
        · simp only [Bool.and_eq_true, beq_iff_eq, decide_eq_true_eq] at hc12
          have hend := hI.many (by omega) hc12.1 (by omega)
          refine c_region ?_
          refine o_pure (p_assign (v := .int .i64 2) rfl) rfl rfl rfl ?_
          refine o_nil ?_
          refine q_then ?_
          refine c_seq ?_
          refine c_seq ?_
          refine c_region ?_
          refine o_pure (p_move (v := .int .i64 2) rfl) rfl rfl rfl ?_
          refine o_pure (p_ne (p := 2) (q := 0) rfl rfl) rfl rfl rfl ?_
          refine o_nil ?_
          refine q_then ?_
          refine c_true rfl ?_
          refine c_seq ?_
          refine c_region ?_
          refine o_pure (p_move (v := .int .i64 2) rfl) rfl rfl rfl ?_
          refine o_pure (p_assign (v := .slice none 0 0) rfl) rfl rfl rfl ?_
          refine o_pure (p_assign (v := .int .i64 2) rfl) rfl rfl rfl ?_
          refine o_nil ?_
          refine q_then ?_
          refine c_ret ?_
          refine q_then_ret (q_block_ret (q_then_ret (q_then_ret (q_block_ret (q_then_ret ?_)))))
          have hr0 : ([] : List Int) = ((Trc.parse s).1) := by
            first | exact hend.1 | exact hend.2
          have hr1 : (2 : Int) = ((Trc.parse s).2) := by
            first | exact hend.1 | exact hend.2
          refine q_endM (p := (none, 0)) (fun _ => False) (rt2 rfl (r_tmp rfl) (r_tmp rfl)) (i := 2) rfl ?_ ?_ ?_
          · exact (by have hcc := congr (congrArg (fun (y0 : List Int) (y1 : Int) => (.tuple #[.slice none y0.length 0, .int .i64 y1] : Value)) hr0) hr1; exact hcc)
          · intro w hw b hb; exact hb.elim
          · intro w hw; exact Eq.mp (congrArg (fun y => SlO tInt _ w none 0 y) hr0) (SlO.nil tInt w)
        · simp only [Bool.and_eq_false_iff, beq_eq_false_iff_ne, ne_eq, decide_eq_false_iff_not, Int.not_lt] at hc12
          have hmy := hc12
          refine c_skip ?_
          refine q_then ?_
          refine c_seq ?_
          refine c_seq ?_
          refine c_region ?_
          refine o_pure (p_move (v := .int .i64 (Trc.pErr ((Trc.words s).getD k default))) rfl) rfl rfl rfl ?_
          refine o_pure (p_ne (p := (Trc.pErr ((Trc.words s).getD k default))) (q := 0) rfl rfl) rfl rfl rfl ?_
          refine o_nil ?_
          refine q_then ?_
          refine c_cond (b := ((Trc.pErr ((Trc.words s).getD k default)) != 0)) rfl (fun hc13 => ?_) (fun hc13 => ?_)
          · simp only [bne_iff_ne, ne_eq] at hc13
            have hend := hI.bad (by omega) hc13
            refine c_seq ?_
            refine c_region ?_
            refine o_pure (p_move (v := .int .i64 (Trc.pErr ((Trc.words s).getD k default))) rfl) rfl rfl rfl ?_
            refine o_pure (p_assign (v := .slice none 0 0) rfl) rfl rfl rfl ?_
            refine o_pure (p_assign (v := .int .i64 (Trc.pErr ((Trc.words s).getD k default))) rfl) rfl rfl rfl ?_
            refine o_nil ?_
            refine q_then ?_
            refine c_ret ?_
            refine q_then_ret (q_block_ret (q_then_ret (q_then_ret (q_block_ret (q_then_ret ?_)))))
            have hr0 : ([] : List Int) = ((Trc.parse s).1) := by
              first | exact hend.1 | exact hend.2
            have hr1 : ((Trc.pErr ((Trc.words s).getD k default)) : Int) = ((Trc.parse s).2) := by
              first | exact hend.1 | exact hend.2
            refine q_endM (p := (none, 0)) (fun _ => False) (rt2 rfl (r_tmp rfl) (r_tmp rfl)) (i := 2) rfl ?_ ?_ ?_
            · exact (by have hcc := congr (congrArg (fun (y0 : List Int) (y1 : Int) => (.tuple #[.slice none y0.length 0, .int .i64 y1] : Value)) hr0) hr1; exact hcc)
            · intro w hw b hb; exact hb.elim
            · intro w hw; exact Eq.mp (congrArg (fun y => SlO tInt _ w none 0 y) hr0) (SlO.nil tInt w)
          · simp only [bne_eq_false_iff_eq] at hc13
            have he0 := hc13
            have hms := hmy.resolve_left (fun h => h he0)
            refine c_skip ?_
            refine q_then ?_
            refine c_seq ?_
            refine c_region ?_
            refine o_pure (p_move (v := .int .i64 (Trc.pMany ((Trc.words s).getD k default))) rfl) rfl rfl rfl ?_
            refine o_pure (p_move (v := .int .i64 0) rfl) rfl rfl rfl ?_
            refine o_nil ?_
            refine q_then ?_
            refine c_block ?_
            refine c_loop (St := List Int × Option Addr × Nat × (Nat → Prop) × Nat)
              (fun ⟨o2, ao2, co2, So2, j⟩ => [(4, .slice ao2 o2.length co2), (7, .int .i64 (Trc.pKey ((Trc.words s).getD k default))), (8, .int .i64 (Trc.pBy ((Trc.words s).getD k default))), (20, .slice a5 (Trc.words s).length c6), (21, .int .i64 ((Trc.words s).length : Int)), (22, .int .i64 (k : Int)), (45, .int .i64 (Trc.pMany ((Trc.words s).getD k default))), (46, .int .i64 (j : Int))])
              (fun ⟨o2, ao2, co2, So2, j⟩ => [own tInt So2 ao2 co2 o2, own tStr S3 a5 c6 (Trc.words s), base w0])
              (fun ⟨o2, ao2, co2, So2, j⟩ => Trc.AI out (Trc.pKey ((Trc.words s).getD k default)) (Trc.pBy ((Trc.words s).getD k default)) (Trc.pMany ((Trc.words s).getD k default)) o2 j)
              (fun ⟨o2, ao2, co2, So2, j⟩ => (Trc.pMany ((Trc.words s).getD k default)).toNat - j)
              (out, aout, cout, Sout, 0) ?_ (Sub.cons rfl (Sub.cons rfl (Sub.cons rfl (Sub.cons rfl (Sub.cons rfl (Sub.cons rfl (Sub.cons rfl (Sub.cons rfl (Sub.nil _))))))))) (fun _ hw => hw) ?_
            · exact Trc.AI.start _ _ _ _
            rintro ⟨o2, ao2, co2, So2, j⟩ hI_ K hK14
            have hA := hI_
            have hl2 := hA.len
            have hj2 := hA.le
            have hmb := Trc.mul_by ((Trc.words s).getD k default) j
            show SC _ _ Tryd.prog 61 w0 _ _ [(4, .slice ao2 o2.length co2), (7, .int .i64 (Trc.pKey ((Trc.words s).getD k default))), (8, .int .i64 (Trc.pBy ((Trc.words s).getD k default))), (20, .slice a5 (Trc.words s).length c6), (21, .int .i64 ((Trc.words s).length : Int)), (22, .int .i64 (k : Int)), (45, .int .i64 (Trc.pMany ((Trc.words s).getD k default))), (46, .int .i64 (j : Int))] [own tInt So2 ao2 co2 o2, own tStr S3 a5 c6 (Trc.words s), base w0]
            refine c_seq ?_
            refine c_region ?_
            refine o_pure (p_lt (p := (j : Int)) (q := (Trc.pMany ((Trc.words s).getD k default))) rfl rfl) rfl rfl rfl ?_
            refine o_nil ?_
            refine q_then ?_
            refine c_seq ?_
            refine c_cond (b := decide ((j : Int) < (Trc.pMany ((Trc.words s).getD k default)))) rfl (fun hc15 => ?_) (fun hc15 => ?_)
            · simp only [decide_eq_true_eq] at hc15
              refine c_skip ?_
              refine q_then ?_
              refine c_seq ?_
              refine c_block ?_
              refine c_seq ?_
              refine c_region ?_
              refine o_pure (p_move (v := .int .i64 (j : Int)) rfl) rfl rfl rfl ?_
              refine o_pure (p_assign (v := .int .i64 (j : Int)) rfl) rfl rfl rfl ?_
              refine o_nil ?_
              refine q_then ?_
              refine c_region ?_
              refine o_pure (p_move (v := .slice ao2 o2.length co2) rfl) rfl rfl rfl ?_
              refine o_pure (p_move (v := .int .i64 (Trc.pKey ((Trc.words s).getD k default))) rfl) rfl rfl rfl ?_
              refine o_pure (p_move (v := .int .i64 (j : Int)) rfl) rfl rfl rfl ?_
              refine o_pure (p_move (v := .int .i64 (Trc.pBy ((Trc.words s).getD k default))) rfl) rfl rfl rfl ?_
              refine o_pure (p_mulb (p := (j : Int)) (q := (Trc.pBy ((Trc.words s).getD k default))) rfl rfl (by omega)) rfl rfl rfl ?_
              refine o_pure (p_addb (p := (Trc.pKey ((Trc.words s).getD k default))) (q := ((j : Int) * (Trc.pBy ((Trc.words s).getD k default)))) rfl rfl (by omega)) rfl rfl rfl ?_
              refine o_buildSlice (m := 1) (T := tInt) (L := [((Trc.pKey ((Trc.words s).getD k default)) + ((j : Int) * (Trc.pBy ((Trc.words s).getD k default))))]) (vs := [.int .i64 ((Trc.pKey ((Trc.words s).getD k default)) + ((j : Int) * (Trc.pBy ((Trc.words s).getD k default))))]) rfl rfl rfl rfl Tryd.underlying22 sz3 (by decide) ze3 rfl (by decide) rfl (fun S16 a17 => ?_)
              refine o_append (i := 1) (L := o2) (M := [((Trc.pKey ((Trc.words s).getD k default)) + ((j : Int) * (Trc.pBy ((Trc.words s).getD k default))))]) (T := tInt) rfl rfl rfl (rd_own (i := 0) rfl) Tryd.underlying22 Tryd.underlying22 (by intro k h; cases h) el3 (by intro z; simp [tInt, one1]) (by decide) (by first | omega | (simp only [List.length_cons, List.length_nil]; omega) | (simp only [List.length_append, List.length_cons, List.length_nil, List.length_take, List.length_drop]; omega)) rfl (fun a19 c20 S21 => ?_)
              refine o_pure (p_assign (v := .slice a19 (o2 ++ [((Trc.pKey ((Trc.words s).getD k default)) + ((j : Int) * (Trc.pBy ((Trc.words s).getD k default))))]).length c20) rfl) rfl rfl rfl ?_
              refine o_nil ?_
              refine q_block_normal (q_then ?_)
              refine c_region ?_
              refine o_pure (p_addb (p := (j : Int)) (q := 1) rfl rfl (by omega)) rfl rfl rfl ?_
              refine o_pure (p_move (v := .int .i64 ((j : Int) + 1)) rfl) rfl rfl rfl ?_
              refine o_nil ?_
              refine q_round hK14 ((o2 ++ [((Trc.pKey ((Trc.words s).getD k default)) + ((j : Int) * (Trc.pBy ((Trc.words s).getD k default))))]), a19, c20, S21, j + 1) ?_ ?_ ?_ ?_
              · clear hK14
                exact hA.next (by omega)
              · (try dsimp only); omega
              · exact Sub.cons rfl (Sub.cons rfl (Sub.cons rfl (Sub.cons rfl (Sub.cons rfl (Sub.cons rfl (Sub.cons rfl (Sub.cons rfl (Sub.nil _))))))))
              · exact fun _ hw => HeapIs.pick hw [1, 2, 3] (by decide) rfl
            · simp only [decide_eq_false_iff_not, Int.not_lt] at hc15
              refine c_exit ?_
              refine q_then_exit (q_then_exit (q_block_exit (q_block_normal (q_then ?_))))
              refine c_region ?_
              refine o_pure (p_addb (p := (k : Int)) (q := 1) rfl rfl (by omega)) rfl rfl rfl ?_
              refine o_pure (p_move (v := .int .i64 ((k : Int) + 1)) rfl) rfl rfl rfl ?_
              refine o_nil ?_
              refine q_round hK9 (o2, ao2, co2, So2, k + 1) ?_ ?_ ?_ ?_
              · clear hK9
                exact hI.next (by omega) he0 (by omega) (hA.done (by omega) (by omega))
              · (try dsimp only); omega
              · exact Sub.cons rfl (Sub.cons rfl (Sub.cons rfl (Sub.cons rfl (Sub.nil _))))
              · exact fun _ hw => HeapIs.pick hw [0, 1, 2] (by decide) rfl
      · simp only [decide_eq_false_iff_not, Int.not_lt] at hc10
        have hend := hI.done (by omega)
        refine c_exit ?_
        refine q_then_exit (q_then_exit (q_block_exit (q_then ?_)))
        refine c_seq ?_
        refine c_region ?_
        refine o_pure (p_move (v := .slice aout out.length cout) rfl) rfl rfl rfl ?_
        refine o_callX (pre := [own tInt Sout aout cout out]) (R := [own tStr S3 a5 c6 (Trc.words s), base w0]) rfl (tclip_ok out aout cout Sout) hf21 rfl (fun _ _ => trivial) rfl ?_
        rintro ⟨a22, c23, S24⟩
        refine o_asH (H' := [own tInt S24 a22 c23 out, own tStr S3 a5 c6 (Trc.words s), base w0]) rfl ?_
        refine o_pure (p_assign (v := .slice a22 out.length c23) rfl) rfl rfl rfl ?_
        refine o_pure (p_assign (v := .int .i64 0) rfl) rfl rfl rfl ?_
        refine o_nil ?_
        refine q_then ?_
        refine c_ret ?_
        have hr0 : (out : List Int) = ((Trc.parse s).1) := by
          first | exact hend.1 | exact hend.2
        have hr1 : (0 : Int) = ((Trc.parse s).2) := by
          first | exact hend.1 | exact hend.2
        refine q_endM (p := (a22, c23)) S24 (rt2 rfl (r_tmp rfl) (r_tmp rfl)) (i := 2) rfl ?_ ?_ ?_
        · exact (by have hcc := congr (congrArg (fun (y0 : List Int) (y1 : Int) => (.tuple #[.slice a22 y0.length c23, .int .i64 y1] : Value)) hr0) hr1; exact hcc)
        · exact fun w hw => hw.above (i := 2) (j := 0) (by decide) rfl rfl
        · intro w hw; exact Eq.mp (congrArg (fun y => SlO tInt _ w a22 c23 y) hr0) ((hw.at (i := 0) rfl).here)

set_option maxHeartbeats 8000000 in
set_option maxRecDepth 100000 in
theorem tformat_ok (l : List Int) (al : Option Addr) (cl : Nat) : Fn0 Tryd.prog 7 [.slice al l.length cl] (fun w => Rd tInt w al cl l ∧ TabW w) (.tuple #[.string (Trc.format l), .int .i64 (Lru.trace l)]) := by
  refine fn0 (nt := 57) (F0 := [(0, .slice al l.length cl)]) Tryd.func7 rfl Tryd.ntmps7 rfl rfl (fun w0 hpre => ?_)
  obtain ⟨hl, hTabW⟩ := hpre
  have hlhl := hl.2.1
  have s42 : (ByteArray.mk #[42]).size = 1 := rfl
  have s45 : (ByteArray.mk #[45]).size = 1 := rfl
  refine c_seq ?_
  refine c_region ?_
  refine o_pure (p_assign (v := .string (ByteArray.mk #[])) rfl) rfl rfl rfl ?_
  refine o_pure (p_assign (v := .int .i64 0) rfl) rfl rfl rfl ?_
  refine o_nil ?_
  refine q_then ?_
  refine c_seq ?_
  refine c_seq ?_
  refine c_region ?_
  refine o_pure (p_move (v := .slice al l.length cl) rfl) rfl rfl rfl ?_
  refine o_call0 (v := .int .i64 (Lru.trace l)) rfl (checkTrace_ok l al cl) hf15 (fun w hw => (rd_base (i := 0) rfl hl) w hw) rfl ?_
  refine o_pure (p_assign (v := .int .i64 (Lru.trace l)) rfl) rfl rfl rfl ?_
  refine o_nil ?_
  refine q_then ?_
  refine c_seq ?_
  refine c_region ?_
  refine o_pure (p_move (v := .int .i64 (Lru.trace l)) rfl) rfl rfl rfl ?_
  refine o_pure (p_ne (p := (Lru.trace l)) (q := 0) rfl rfl) rfl rfl rfl ?_
  refine o_nil ?_
  refine q_then ?_
  refine c_cond (b := ((Lru.trace l) != 0)) rfl (fun hc1 => ?_) (fun hc1 => ?_)
  · simp only [bne_iff_ne, ne_eq] at hc1
    have hend := Trc.fmt_bad hc1
    refine c_seq ?_
    refine c_region ?_
    refine o_pure (p_move (v := .int .i64 (Lru.trace l)) rfl) rfl rfl rfl ?_
    refine o_pure (p_assign (v := .string (ByteArray.mk #[])) rfl) rfl rfl rfl ?_
    refine o_pure (p_assign (v := .int .i64 (Lru.trace l)) rfl) rfl rfl rfl ?_
    refine o_nil ?_
    refine q_then ?_
    refine c_ret ?_
    refine q_then_ret ?_
    have hr0 : ((ByteArray.mk #[]) : ByteArray) = (Trc.format l) := by
      first | rfl | exact hend | exact htr.symm
    refine q_end0 (v := .tuple #[.string (ByteArray.mk #[]), .int .i64 (Lru.trace l)]) (rt2 rfl (r_tmp rfl) (r_tmp rfl)) (i := 0) rfl ?_
    exact (by have hcc := congrArg (fun (y0 : ByteArray) => (.tuple #[.string y0, .int .i64 (Lru.trace l)] : Value)) hr0; exact hcc)
  · simp only [bne_eq_false_iff_eq] at hc1
    have htr := hc1
    refine c_skip ?_
    refine q_then ?_
    refine c_seq ?_
    refine c_region ?_
    refine o_pure (p_assign (v := .slice none 0 0) rfl) rfl rfl rfl ?_
    refine o_nil ?_
    refine q_then ?_
    refine c_seq ?_
    refine c_block ?_
    refine c_ownNil tStr ?_
    refine c_loop (St := List Int × Option Addr × Nat × List ByteArray × Option Addr × Nat × (Nat → Prop))
      (fun ⟨l2, al2, cl2, out, aout, cout, Sout⟩ => [(0, .slice al2 l2.length cl2), (5, .slice aout out.length cout)])
      (fun ⟨l2, al2, cl2, out, aout, cout, Sout⟩ => [own tStr Sout aout cout out, base w0])
      (fun ⟨l2, al2, cl2, out, aout, cout, Sout⟩ => Trc.FI l l2 out ∧ Rd tInt w0 al2 cl2 l2)
      (fun ⟨l2, al2, cl2, out, aout, cout, Sout⟩ => l2.length)
      (l, al, cl, [], none, 0, (fun _ => False)) ?_ (Sub.cons rfl (Sub.cons rfl (Sub.nil _))) (fun _ hw => hw) ?_
    · exact ⟨Trc.FI.start htr, hl⟩
    rintro ⟨l2, al2, cl2, out, aout, cout, Sout⟩ hI K hK3
    obtain ⟨hF, hl2⟩ := hI
    have hl2l := hl2.2.1
    have hln := hF.len
    have hol := hF.olen
    show SC _ _ Tryd.prog 57 w0 _ _ [(0, .slice al2 l2.length cl2), (5, .slice aout out.length cout)] [own tStr Sout aout cout out, base w0]
    refine c_seq ?_
    refine c_seq ?_
    refine c_region ?_
    refine o_pure (p_move (v := .slice al2 l2.length cl2) rfl) rfl rfl rfl ?_
    refine o_pure (p_len_slice (len := l2.length) rfl rfl Tryd.underlying22) rfl rfl rfl ?_
    refine o_pure (p_gt (p := (l2.length : Int)) (q := 0) rfl rfl) rfl rfl rfl ?_
    refine o_nil ?_
    refine q_then ?_
    refine c_cond (b := decide (0 < (l2.length : Int))) rfl (fun hc4 => ?_) (fun hc4 => ?_)
    · simp only [decide_eq_true_eq] at hc4
      have hne := Trc.len_pos hc4
      have hkk := hF.keys
      have hr0 := Trc.run_le hne 0
      have hr1 := Trc.run_le hne 1
      have hp0 := Trc.run_pos 0 l2
      have hp1 := Trc.run_pos 1 l2
      have hk0 := Trc.key_bd hkk 0
      have z0 := Trc.decS_sz (n := l2.getD 0 default) (by omega)
      refine c_skip ?_
      refine q_then ?_
      refine c_block ?_
      refine c_seq ?_
      refine c_region ?_
      refine o_pure (p_move (v := .slice al2 l2.length cl2) rfl) rfl rfl rfl ?_
      refine o_call0 (v := .int .i64 (Trc.run (0 : Int) l2 : Int)) rfl (trun_ok l2 al2 cl2 (0 : Int) (by first | assumption | exact ⟨hne, hkk, .inl rfl⟩ | exact ⟨hne, hkk, .inr rfl⟩)) hf16 (fun w hw => (rd_base (i := 1) rfl hl2) w hw) rfl ?_
      refine o_pure (p_move (v := .slice al2 l2.length cl2) rfl) rfl rfl rfl ?_
      refine o_call0 (v := .int .i64 (Trc.run (1 : Int) l2 : Int)) rfl (trun_ok l2 al2 cl2 (1 : Int) (by first | assumption | exact ⟨hne, hkk, .inl rfl⟩ | exact ⟨hne, hkk, .inr rfl⟩)) hf16 (fun w hw => (rd_base (i := 1) rfl hl2) w hw) rfl ?_
      refine o_pure (p_assign (v := .int .i64 (Trc.run (0 : Int) l2 : Int)) rfl) rfl rfl rfl ?_
      refine o_pure (p_assign (v := .int .i64 (Trc.run (1 : Int) l2 : Int)) rfl) rfl rfl rfl ?_
      refine o_nil ?_
      refine q_then ?_
      refine c_seq ?_
      refine c_region ?_
      refine o_pure (p_move (v := .slice al2 l2.length cl2) rfl) rfl rfl rfl ?_
      refine o_pure (p_indexAddr (L := l2) (T := tInt) (i := 0) rfl rfl (rd_base (i := 1) rfl hl2) Tryd.underlying22 sz3 (by omega) (by omega)) rfl rfl rfl ?_
      refine o_pure (p_loadE1 (i := 0) (T := tInt) (L := l2) (v := .int .i64 (l2.getD 0 default)) rfl (rd_base (i := 1) rfl hl2) (by first | assumption | omega) sh3 (congrArg tInt.enc (getd_at (by first | assumption | omega) default))) rfl rfl rfl ?_
      refine o_call0 (v := .string (Trc.decS (l2.getD 0 default))) rfl (kitoa_ok (l2.getD 0 default) (by omega)) hf17 (fun w hw => pre_base (i := 1) rfl TabW_st hTabW w hw) rfl ?_
      refine o_pure (p_assign (v := .string (Trc.decS (l2.getD 0 default))) rfl) rfl rfl rfl ?_
      refine o_nil ?_
      refine q_then ?_
      refine c_seq ?_
      refine c_region ?_
      refine o_pure (p_assign (v := .int .i64 1) rfl) rfl rfl rfl ?_
      refine o_nil ?_
      refine q_then ?_
      refine c_seq ?_
      refine c_block ?_
      refine c_seq ?_
      refine c_region ?_
      refine o_pure (p_move (v := .int .i64 (Trc.run (0 : Int) l2 : Int)) rfl) rfl rfl rfl ?_
      refine o_pure (p_gt (p := (Trc.run (0 : Int) l2 : Int)) (q := 1) rfl rfl) rfl rfl rfl ?_
      refine o_pure (p_assign (v := .bool (decide (1 < (Trc.run (0 : Int) l2 : Int)))) rfl) rfl rfl rfl ?_
      refine o_nil ?_
      refine q_then ?_
      refine c_cond (b := decide (1 < (Trc.run (0 : Int) l2 : Int))) rfl (fun hc5 => ?_) (fun hc5 => ?_)
      · simp only [decide_eq_true_eq] at hc5
        have hst := hc5
        have z1 := Trc.decS_sz (n := (Trc.run 0 l2 : Int)) (by omega)
        refine c_seq ?_
        refine c_region ?_
        refine o_pure (p_move (v := .int .i64 (Trc.run (0 : Int) l2 : Int)) rfl) rfl rfl rfl ?_
        refine o_pure (p_assign (v := .int .i64 (Trc.run (0 : Int) l2 : Int)) rfl) rfl rfl rfl ?_
        refine o_nil ?_
        refine q_then ?_
        refine c_region ?_
        refine o_pure (p_move (v := .string (Trc.decS (l2.getD 0 default))) rfl) rfl rfl rfl ?_
        refine o_pure (p_move (v := .int .i64 (Trc.run (0 : Int) l2 : Int)) rfl) rfl rfl rfl ?_
        refine o_call0 (v := .string (Trc.decS (Trc.run (0 : Int) l2 : Int))) rfl (kitoa_ok (Trc.run (0 : Int) l2 : Int) (by omega)) hf17 (fun w hw => pre_base (i := 1) rfl TabW_st hTabW w hw) rfl ?_
        refine o_pure (p_addStr (s := (ByteArray.mk #[42])) (t := (Trc.decS (Trc.run (0 : Int) l2 : Int))) rfl rfl (by first | omega | (simp only [ByteArray.size_append]; omega))) rfl rfl rfl ?_
        refine o_pure (p_addStr (s := (Trc.decS (l2.getD 0 default))) (t := ((ByteArray.mk #[42]) ++ (Trc.decS (Trc.run (0 : Int) l2 : Int)))) rfl rfl (by first | omega | (simp only [ByteArray.size_append]; omega))) rfl rfl rfl ?_
        refine o_pure (p_assign (v := .string ((Trc.decS (l2.getD 0 default)) ++ ((ByteArray.mk #[42]) ++ (Trc.decS (Trc.run (0 : Int) l2 : Int))))) rfl) rfl rfl rfl ?_
        refine o_nil ?_
        refine q_block_normal (q_then ?_)
        refine c_seq ?_
        refine c_region ?_
        refine o_pure (p_move (v := .slice aout out.length cout) rfl) rfl rfl rfl ?_
        refine o_pure (p_move (v := .string ((Trc.decS (l2.getD 0 default)) ++ ((ByteArray.mk #[42]) ++ (Trc.decS (Trc.run (0 : Int) l2 : Int))))) rfl) rfl rfl rfl ?_
        refine o_buildSlice (m := 1) (T := tStr) (L := [((Trc.decS (l2.getD 0 default)) ++ ((ByteArray.mk #[42]) ++ (Trc.decS (Trc.run (0 : Int) l2 : Int))))]) (vs := [.string ((Trc.decS (l2.getD 0 default)) ++ ((ByteArray.mk #[42]) ++ (Trc.decS (Trc.run (0 : Int) l2 : Int))))]) rfl rfl rfl rfl Tryd.underlying37 sz9 (by decide) ze9 rfl (by decide) rfl (fun S6 a7 => ?_)
        refine o_append (i := 1) (L := out) (M := [((Trc.decS (l2.getD 0 default)) ++ ((ByteArray.mk #[42]) ++ (Trc.decS (Trc.run (0 : Int) l2 : Int))))]) (T := tStr) rfl rfl rfl (rd_own (i := 0) rfl) Tryd.underlying37 Tryd.underlying37 (by intro k h; cases h) el9 (by intro z; simp [tStr, one1]) (by decide) (by first | omega | (simp only [List.length_cons, List.length_nil]; omega) | (simp only [List.length_append, List.length_cons, List.length_nil, List.length_take, List.length_drop]; omega)) rfl (fun a9 c10 S11 => ?_)
        refine o_pure (p_assign (v := .slice a9 (out ++ [((Trc.decS (l2.getD 0 default)) ++ ((ByteArray.mk #[42]) ++ (Trc.decS (Trc.run (0 : Int) l2 : Int))))]).length c10) rfl) rfl rfl rfl ?_
        refine o_nil ?_
        refine q_then ?_
        refine c_region ?_
        refine o_pure (p_move (v := .slice al2 l2.length cl2) rfl) rfl rfl rfl ?_
        refine o_pure (p_move (v := .int .i64 (Trc.run (0 : Int) l2 : Int)) rfl) rfl rfl rfl ?_
        refine o_pure (p_sliceL (L := l2) (T := tInt) (l := (Trc.run (0 : Int) l2 : Int)) rfl rfl Tryd.underlying22 sz3 (by omega) (by omega) (rd_base (i := 2) rfl hl2)) rfl rfl rfl ?_
        refine o_pure (p_assign (v := .slice (sa al2 cl2 ((Trc.run (0 : Int) l2 : Int).toNat) tInt.k) (l2.drop ((Trc.run (0 : Int) l2 : Int).toNat)).length (cl2 - (Trc.run (0 : Int) l2 : Int).toNat)) rfl) rfl rfl rfl ?_
        refine o_nil ?_
        refine q_block_normal ?_
        refine q_round hK3 ((l2.drop ((Trc.run (0 : Int) l2 : Int).toNat)), (sa al2 cl2 ((Trc.run (0 : Int) l2 : Int).toNat) tInt.k), (cl2 - (Trc.run (0 : Int) l2 : Int).toNat), (out ++ [((Trc.decS (l2.getD 0 default)) ++ ((ByteArray.mk #[42]) ++ (Trc.decS (Trc.run (0 : Int) l2 : Int))))]), a9, c10, S11) ?_ ?_ ?_ ?_
        · clear hK3
          first | exact ⟨hF.star hne hst, Rd_drop hl2 (by omega)⟩ | exact ⟨hF.dash hne hst hds, Rd_drop hl2 (by omega)⟩ | exact ⟨hF.one hne hst hds, Rd_drop hl2 (by omega)⟩
        · (try dsimp only); rw [List.length_drop]; omega
        · exact Sub.cons rfl (Sub.cons rfl (Sub.nil _))
        · exact fun _ hw => HeapIs.pick hw [1, 2] (by decide) rfl
      · simp only [decide_eq_false_iff_not, Int.not_lt] at hc5
        have hst := hc5
        refine c_seq ?_
        refine c_region ?_
        refine o_pure (p_move (v := .int .i64 (Trc.run (1 : Int) l2 : Int)) rfl) rfl rfl rfl ?_
        refine o_pure (p_gt (p := (Trc.run (1 : Int) l2 : Int)) (q := 2) rfl rfl) rfl rfl rfl ?_
        refine o_pure (p_assign (v := .bool (decide (2 < (Trc.run (1 : Int) l2 : Int)))) rfl) rfl rfl rfl ?_
        refine o_nil ?_
        refine q_then ?_
        refine c_cond (b := decide (2 < (Trc.run (1 : Int) l2 : Int))) rfl (fun hc12 => ?_) (fun hc12 => ?_)
        · simp only [decide_eq_true_eq] at hc12
          have hds := hc12
          have hlb := Trc.key_bd hkk ((Trc.run 1 l2 : Int) - 1).toNat
          have z1 := Trc.decS_sz (n := l2.getD ((Trc.run 1 l2 : Int) - 1).toNat default) (by omega)
          refine c_seq ?_
          refine c_region ?_
          refine o_pure (p_move (v := .int .i64 (Trc.run (1 : Int) l2 : Int)) rfl) rfl rfl rfl ?_
          refine o_pure (p_assign (v := .int .i64 (Trc.run (1 : Int) l2 : Int)) rfl) rfl rfl rfl ?_
          refine o_nil ?_
          refine q_then ?_
          refine c_region ?_
          refine o_pure (p_move (v := .string (Trc.decS (l2.getD 0 default))) rfl) rfl rfl rfl ?_
          refine o_pure (p_move (v := .slice al2 l2.length cl2) rfl) rfl rfl rfl ?_
          refine o_pure (p_move (v := .int .i64 (Trc.run (1 : Int) l2 : Int)) rfl) rfl rfl rfl ?_
          refine o_pure (p_subb (p := (Trc.run (1 : Int) l2 : Int)) (q := 1) rfl rfl (by omega)) rfl rfl rfl ?_
          refine o_pure (p_indexAddr (L := l2) (T := tInt) (i := ((Trc.run (1 : Int) l2 : Int) - 1)) rfl rfl (rd_base (i := 1) rfl hl2) Tryd.underlying22 sz3 (by omega) (by omega)) rfl rfl rfl ?_
          refine o_pure (p_loadE1 (i := ((Trc.run (1 : Int) l2 : Int) - 1).toNat) (T := tInt) (L := l2) (v := .int .i64 (l2.getD (((Trc.run (1 : Int) l2 : Int) - 1).toNat) default)) rfl (rd_base (i := 1) rfl hl2) (by first | assumption | omega) sh3 (congrArg tInt.enc (getd_at (by first | assumption | omega) default))) rfl rfl rfl ?_
          refine o_call0 (v := .string (Trc.decS (l2.getD (((Trc.run (1 : Int) l2 : Int) - 1).toNat) default))) rfl (kitoa_ok (l2.getD (((Trc.run (1 : Int) l2 : Int) - 1).toNat) default) (by omega)) hf17 (fun w hw => pre_base (i := 1) rfl TabW_st hTabW w hw) rfl ?_
          refine o_pure (p_addStr (s := (ByteArray.mk #[45])) (t := (Trc.decS (l2.getD (((Trc.run (1 : Int) l2 : Int) - 1).toNat) default))) rfl rfl (by first | omega | (simp only [ByteArray.size_append]; omega))) rfl rfl rfl ?_
          refine o_pure (p_addStr (s := (Trc.decS (l2.getD 0 default))) (t := ((ByteArray.mk #[45]) ++ (Trc.decS (l2.getD (((Trc.run (1 : Int) l2 : Int) - 1).toNat) default)))) rfl rfl (by first | omega | (simp only [ByteArray.size_append]; omega))) rfl rfl rfl ?_
          refine o_pure (p_assign (v := .string ((Trc.decS (l2.getD 0 default)) ++ ((ByteArray.mk #[45]) ++ (Trc.decS (l2.getD (((Trc.run (1 : Int) l2 : Int) - 1).toNat) default))))) rfl) rfl rfl rfl ?_
          refine o_nil ?_
          refine q_block_normal (q_then ?_)
          refine c_seq ?_
          refine c_region ?_
          refine o_pure (p_move (v := .slice aout out.length cout) rfl) rfl rfl rfl ?_
          refine o_pure (p_move (v := .string ((Trc.decS (l2.getD 0 default)) ++ ((ByteArray.mk #[45]) ++ (Trc.decS (l2.getD (((Trc.run (1 : Int) l2 : Int) - 1).toNat) default))))) rfl) rfl rfl rfl ?_
          refine o_buildSlice (m := 1) (T := tStr) (L := [((Trc.decS (l2.getD 0 default)) ++ ((ByteArray.mk #[45]) ++ (Trc.decS (l2.getD (((Trc.run (1 : Int) l2 : Int) - 1).toNat) default))))]) (vs := [.string ((Trc.decS (l2.getD 0 default)) ++ ((ByteArray.mk #[45]) ++ (Trc.decS (l2.getD (((Trc.run (1 : Int) l2 : Int) - 1).toNat) default))))]) rfl rfl rfl rfl Tryd.underlying37 sz9 (by decide) ze9 rfl (by decide) rfl (fun S13 a14 => ?_)
          refine o_append (i := 1) (L := out) (M := [((Trc.decS (l2.getD 0 default)) ++ ((ByteArray.mk #[45]) ++ (Trc.decS (l2.getD (((Trc.run (1 : Int) l2 : Int) - 1).toNat) default))))]) (T := tStr) rfl rfl rfl (rd_own (i := 0) rfl) Tryd.underlying37 Tryd.underlying37 (by intro k h; cases h) el9 (by intro z; simp [tStr, one1]) (by decide) (by first | omega | (simp only [List.length_cons, List.length_nil]; omega) | (simp only [List.length_append, List.length_cons, List.length_nil, List.length_take, List.length_drop]; omega)) rfl (fun a16 c17 S18 => ?_)
          refine o_pure (p_assign (v := .slice a16 (out ++ [((Trc.decS (l2.getD 0 default)) ++ ((ByteArray.mk #[45]) ++ (Trc.decS (l2.getD (((Trc.run (1 : Int) l2 : Int) - 1).toNat) default))))]).length c17) rfl) rfl rfl rfl ?_
          refine o_nil ?_
          refine q_then ?_
          refine c_region ?_
          refine o_pure (p_move (v := .slice al2 l2.length cl2) rfl) rfl rfl rfl ?_
          refine o_pure (p_move (v := .int .i64 (Trc.run (1 : Int) l2 : Int)) rfl) rfl rfl rfl ?_
          refine o_pure (p_sliceL (L := l2) (T := tInt) (l := (Trc.run (1 : Int) l2 : Int)) rfl rfl Tryd.underlying22 sz3 (by omega) (by omega) (rd_base (i := 2) rfl hl2)) rfl rfl rfl ?_
          refine o_pure (p_assign (v := .slice (sa al2 cl2 ((Trc.run (1 : Int) l2 : Int).toNat) tInt.k) (l2.drop ((Trc.run (1 : Int) l2 : Int).toNat)).length (cl2 - (Trc.run (1 : Int) l2 : Int).toNat)) rfl) rfl rfl rfl ?_
          refine o_nil ?_
          refine q_block_normal ?_
          refine q_round hK3 ((l2.drop ((Trc.run (1 : Int) l2 : Int).toNat)), (sa al2 cl2 ((Trc.run (1 : Int) l2 : Int).toNat) tInt.k), (cl2 - (Trc.run (1 : Int) l2 : Int).toNat), (out ++ [((Trc.decS (l2.getD 0 default)) ++ ((ByteArray.mk #[45]) ++ (Trc.decS (l2.getD (((Trc.run (1 : Int) l2 : Int) - 1).toNat) default))))]), a16, c17, S18) ?_ ?_ ?_ ?_
          · clear hK3
            first | exact ⟨hF.star hne hst, Rd_drop hl2 (by omega)⟩ | exact ⟨hF.dash hne hst hds, Rd_drop hl2 (by omega)⟩ | exact ⟨hF.one hne hst hds, Rd_drop hl2 (by omega)⟩
          · (try dsimp only); rw [List.length_drop]; omega
          · exact Sub.cons rfl (Sub.cons rfl (Sub.nil _))
          · exact fun _ hw => HeapIs.pick hw [1, 2] (by decide) rfl
        · simp only [decide_eq_false_iff_not, Int.not_lt] at hc12
          have hds := hc12
          refine c_skip ?_
          refine q_block_normal (q_then ?_)
          refine c_seq ?_
          refine c_region ?_
          refine o_pure (p_move (v := .slice aout out.length cout) rfl) rfl rfl rfl ?_
          refine o_pure (p_move (v := .string (Trc.decS (l2.getD 0 default))) rfl) rfl rfl rfl ?_
          refine o_buildSlice (m := 1) (T := tStr) (L := [(Trc.decS (l2.getD 0 default))]) (vs := [.string (Trc.decS (l2.getD 0 default))]) rfl rfl rfl rfl Tryd.underlying37 sz9 (by decide) ze9 rfl (by decide) rfl (fun S19 a20 => ?_)
          refine o_append (i := 1) (L := out) (M := [(Trc.decS (l2.getD 0 default))]) (T := tStr) rfl rfl rfl (rd_own (i := 0) rfl) Tryd.underlying37 Tryd.underlying37 (by intro k h; cases h) el9 (by intro z; simp [tStr, one1]) (by decide) (by first | omega | (simp only [List.length_cons, List.length_nil]; omega) | (simp only [List.length_append, List.length_cons, List.length_nil, List.length_take, List.length_drop]; omega)) rfl (fun a22 c23 S24 => ?_)
          refine o_pure (p_assign (v := .slice a22 (out ++ [(Trc.decS (l2.getD 0 default))]).length c23) rfl) rfl rfl rfl ?_
          refine o_nil ?_
          refine q_then ?_
          refine c_region ?_
          refine o_pure (p_move (v := .slice al2 l2.length cl2) rfl) rfl rfl rfl ?_
          refine o_pure (p_move (v := .int .i64 1) rfl) rfl rfl rfl ?_
          refine o_pure (p_sliceL (L := l2) (T := tInt) (l := 1) rfl rfl Tryd.underlying22 sz3 (by omega) (by omega) (rd_base (i := 2) rfl hl2)) rfl rfl rfl ?_
          refine o_pure (p_assign (v := .slice (sa al2 cl2 1 tInt.k) (l2.drop 1).length (cl2 - 1)) rfl) rfl rfl rfl ?_
          refine o_nil ?_
          refine q_block_normal ?_
          refine q_round hK3 ((l2.drop 1), (sa al2 cl2 1 tInt.k), (cl2 - 1), (out ++ [(Trc.decS (l2.getD 0 default))]), a22, c23, S24) ?_ ?_ ?_ ?_
          · clear hK3
            first | exact ⟨hF.star hne hst, Rd_drop hl2 (by omega)⟩ | exact ⟨hF.dash hne hst hds, Rd_drop hl2 (by omega)⟩ | exact ⟨hF.one hne hst hds, Rd_drop hl2 (by omega)⟩
          · (try dsimp only); rw [List.length_drop]; omega
          · exact Sub.cons rfl (Sub.cons rfl (Sub.nil _))
          · exact fun _ hw => HeapIs.pick hw [1, 2] (by decide) rfl
    · simp only [decide_eq_false_iff_not, Int.not_lt] at hc4
      have hjs := hF.size
      have hend := hF.done htr (by omega)
      refine c_exit ?_
      refine q_then_exit (q_then_exit (q_block_exit (q_then ?_)))
      refine c_seq ?_
      refine c_region ?_
      refine o_pure (p_move (v := .slice aout out.length cout) rfl) rfl rfl rfl ?_
      refine o_call0 (v := .string (Trc.joinB out (ByteArray.mk #[32]))) rfl (kjoin_ok out aout cout (ByteArray.mk #[32]) (by assumption)) hf18 (fun w hw => (rd_own (i := 0) rfl) w hw) rfl ?_
      refine o_pure (p_assign (v := .string (Trc.joinB out (ByteArray.mk #[32]))) rfl) rfl rfl rfl ?_
      refine o_pure (p_assign (v := .int .i64 0) rfl) rfl rfl rfl ?_
      refine o_nil ?_
      refine q_then ?_
      refine c_ret ?_
      have hr0 : ((Trc.joinB out (ByteArray.mk #[32])) : ByteArray) = (Trc.format l) := by
        first | rfl | exact hend | exact htr.symm
      have hr1 : (0 : Int) = (Lru.trace l) := by
        first | rfl | exact hend | exact htr.symm
      refine q_end0 (v := .tuple #[.string (Trc.joinB out (ByteArray.mk #[32])), .int .i64 0]) (rt2 rfl (r_tmp rfl) (r_tmp rfl)) (i := 1) rfl ?_
      exact (by have hcc := congr (congrArg (fun (y0 : ByteArray) (y1 : Int) => (.tuple #[.string y0, .int .i64 y1] : Value)) hr0) hr1; exact hcc)

set_option maxHeartbeats 8000000 in
set_option maxRecDepth 100000 in
theorem tcompact_ok (s : ByteArray) : Fn0 Tryd.prog 9 [.string s] (fun w => MaxW w ∧ TabW w) (.tuple #[.string (Trc.compact s), .int .i64 ((Trc.parse s).2)]) := by
  refine fn0 (nt := 18) (F0 := [(0, .string s)]) Tryd.func9 rfl Tryd.ntmps9 rfl rfl (fun w0 hpre => ?_)
  obtain ⟨hMaxW, hTabW⟩ := hpre
  refine c_seq ?_
  refine c_region ?_
  refine o_pure (p_assign (v := .string (ByteArray.mk #[])) rfl) rfl rfl rfl ?_
  refine o_pure (p_assign (v := .int .i64 0) rfl) rfl rfl rfl ?_
  refine o_nil ?_
  refine q_then ?_
  refine c_seq ?_
  refine c_region ?_
  refine o_pure (p_move (v := .string s) rfl) rfl rfl rfl ?_
  refine o_callM rfl (tparse_ok s) hf8 (fun w hw => pre_base (i := 0) rfl MaxW_st hMaxW w hw) rfl (fun _ _ _ _ ha hA => SlO.agree ha hA) ?_
  rintro ⟨a3, c4⟩ S1
  refine o_know (fun w hw => own_len (i := 0) (T := tInt) hw rfl) (fun hlr5 => ?_)
  refine o_pure (p_move (v := .tuple #[.slice a3 ((Trc.parse s).1).length c4, .int .i64 ((Trc.parse s).2)]) rfl) rfl rfl rfl ?_
  refine o_pure (p_extract (vs := [.slice a3 ((Trc.parse s).1).length c4, .int .i64 ((Trc.parse s).2)]) (v := .slice a3 ((Trc.parse s).1).length c4) rfl rfl) rfl rfl rfl ?_
  refine o_pure (p_extract (vs := [.slice a3 ((Trc.parse s).1).length c4, .int .i64 ((Trc.parse s).2)]) (v := .int .i64 ((Trc.parse s).2)) rfl rfl) rfl rfl rfl ?_
  refine o_pure (p_assign (v := .slice a3 ((Trc.parse s).1).length c4) rfl) rfl rfl rfl ?_
  refine o_pure (p_assign (v := .int .i64 ((Trc.parse s).2)) rfl) rfl rfl rfl ?_
  refine o_nil ?_
  refine q_then ?_
  refine c_seq ?_
  refine c_seq ?_
  refine c_region ?_
  refine o_pure (p_move (v := .int .i64 ((Trc.parse s).2)) rfl) rfl rfl rfl ?_
  refine o_pure (p_ne (p := ((Trc.parse s).2)) (q := 0) rfl rfl) rfl rfl rfl ?_
  refine o_nil ?_
  refine q_then ?_
  refine c_cond (b := (((Trc.parse s).2) != 0)) rfl (fun hc6 => ?_) (fun hc6 => ?_)
  · simp only [bne_iff_ne, ne_eq] at hc6
    have hcp := hc6
    refine c_seq ?_
    refine c_region ?_
    refine o_pure (p_move (v := .int .i64 ((Trc.parse s).2)) rfl) rfl rfl rfl ?_
    refine o_pure (p_assign (v := .string (ByteArray.mk #[])) rfl) rfl rfl rfl ?_
    refine o_pure (p_assign (v := .int .i64 ((Trc.parse s).2)) rfl) rfl rfl rfl ?_
    refine o_nil ?_
    refine q_then ?_
    refine c_ret ?_
    refine q_then_ret ?_
    have hr0 : ((ByteArray.mk #[]) : ByteArray) = (Trc.compact s) := by
      first | rfl | exact (if_neg hcp).symm | exact (if_pos hcp).symm | exact (Trc.parse_ok hcp).trans hcp.symm
    refine q_end0 (v := .tuple #[.string (ByteArray.mk #[]), .int .i64 ((Trc.parse s).2)]) (rt2 rfl (r_tmp rfl) (r_tmp rfl)) (i := 1) rfl ?_
    exact (by have hcc := congrArg (fun (y0 : ByteArray) => (.tuple #[.string y0, .int .i64 ((Trc.parse s).2)] : Value)) hr0; exact hcc)
  · simp only [bne_eq_false_iff_eq] at hc6
    have hcp := hc6
    refine c_skip ?_
    refine q_then ?_
    refine c_seq ?_
    refine c_region ?_
    refine o_pure (p_move (v := .slice a3 ((Trc.parse s).1).length c4) rfl) rfl rfl rfl ?_
    refine o_call0 (v := .tuple #[.string (Trc.format ((Trc.parse s).1)), .int .i64 (Lru.trace ((Trc.parse s).1))]) rfl (tformat_ok ((Trc.parse s).1) a3 c4) hf7 (fun w hw => ⟨(rd_own (i := 0) rfl) w hw, pre_base (i := 1) rfl TabW_st hTabW w hw⟩) rfl ?_
    refine o_pure (p_extract (vs := [.string (Trc.format ((Trc.parse s).1)), .int .i64 (Lru.trace ((Trc.parse s).1))]) (v := .string (Trc.format ((Trc.parse s).1))) rfl rfl) rfl rfl rfl ?_
    refine o_pure (p_extract (vs := [.string (Trc.format ((Trc.parse s).1)), .int .i64 (Lru.trace ((Trc.parse s).1))]) (v := .int .i64 (Lru.trace ((Trc.parse s).1))) rfl rfl) rfl rfl rfl ?_
    refine o_pure (p_assign (v := .string (Trc.format ((Trc.parse s).1))) rfl) rfl rfl rfl ?_
    refine o_pure (p_assign (v := .int .i64 (Lru.trace ((Trc.parse s).1))) rfl) rfl rfl rfl ?_
    refine o_nil ?_
    refine q_then ?_
    refine c_ret ?_
    have hr0 : ((Trc.format ((Trc.parse s).1)) : ByteArray) = (Trc.compact s) := by
      first | rfl | exact (if_neg hcp).symm | exact (if_pos hcp).symm | exact (Trc.parse_ok hcp).trans hcp.symm
    have hr1 : ((Lru.trace ((Trc.parse s).1)) : Int) = ((Trc.parse s).2) := by
      first | rfl | exact (if_neg hcp).symm | exact (if_pos hcp).symm | exact (Trc.parse_ok hcp).trans hcp.symm
    refine q_end0 (v := .tuple #[.string (Trc.format ((Trc.parse s).1)), .int .i64 (Lru.trace ((Trc.parse s).1))]) (rt2 rfl (r_tmp rfl) (r_tmp rfl)) (i := 1) rfl ?_
    exact (by have hcc := congr (congrArg (fun (y0 : ByteArray) (y1 : Int) => (.tuple #[.string y0, .int .i64 y1] : Value)) hr0) hr1; exact hcc)
end Go.Proofs.YtgkihbbeimhmbaaDoor
