/- The walks, printed by a program from the translation and a specification. -/
import Derived.Test.YthbfdhphnofacaaAaF
import Derived.Test.YthbfdhphnofacaaFlPure
import Derived.Test.YthbfdhphnofacaaFlLaw
import Derived.Test.YthbfdhphnofacaaAaW1
namespace Go.Proofs.Ythbfdhphnofacaa
open Go.Sx Go.RowKit
set_option maxHeartbeats 8000000 in
set_option maxRecDepth 100000 in
theorem planEx_ok (l : List DCall) (al : Option Addr) (cl : Nat) : FnM Try.prog 24 [.slice al l.length cl] (fun w => Rd tCall w al cl l) (Option Addr × Nat × Option Addr × Nat) (fun p => .tuple #[.slice p.1 (Flight.who l).length p.2.1, .slice p.2.2.1 (Flight.when_ l).length p.2.2.2, .int .i64 (Flight.check l)]) (fun p S w => SlR tInt S w p.1 p.2.1 (Flight.who l) ∧ SlR tInt S w p.2.2.1 p.2.2.2 (Flight.when_ l)) := by
  refine fnM (nt := 35) (F0 := [(0, .slice al l.length cl)]) Try.func24 rfl Try.ntmps24 rfl rfl (fun w0 hpre => ?_)
  have hl := hpre
  have hll := hl.2.1
  refine c_seq ?_
  refine c_region ?_
  refine o_pure (p_assign (v := .slice none 0 0) rfl) rfl rfl rfl ?_
  refine o_pure (p_assign (v := .slice none 0 0) rfl) rfl rfl rfl ?_
  refine o_pure (p_assign (v := .int .i64 0) rfl) rfl rfl rfl ?_
  refine o_nil ?_
  refine q_then ?_
  refine c_seq ?_
  refine c_seq ?_
  refine c_region ?_
  refine o_pure (p_move (v := .slice al l.length cl) rfl) rfl rfl rfl ?_
  refine o_call0 (v := .int .i64 (Flight.check l)) rfl (check_ok l al cl) hf30 (fun w hw => (rd_base (i := 0) rfl hl) w hw) rfl ?_
  refine o_pure (p_assign (v := .int .i64 (Flight.check l)) rfl) rfl rfl rfl ?_
  refine o_nil ?_
  refine q_then ?_
  refine c_seq ?_
  refine c_region ?_
  refine o_pure (p_move (v := .int .i64 (Flight.check l)) rfl) rfl rfl rfl ?_
  refine o_pure (p_ne (p := (Flight.check l)) (q := 0) rfl rfl) rfl rfl rfl ?_
  refine o_nil ?_
  refine q_then ?_
  refine c_cond (b := ((Flight.check l) != 0)) rfl (fun hc1 => ?_) (fun hc1 => ?_)
  · simp only [bne_iff_ne, ne_eq] at hc1
    refine c_seq ?_
    refine c_region ?_
    refine o_pure (p_move (v := .int .i64 (Flight.check l)) rfl) rfl rfl rfl ?_
    refine o_pure (p_assign (v := .slice none 0 0) rfl) rfl rfl rfl ?_
    refine o_pure (p_assign (v := .slice none 0 0) rfl) rfl rfl rfl ?_
    refine o_pure (p_assign (v := .int .i64 (Flight.check l)) rfl) rfl rfl rfl ?_
    refine o_nil ?_
    refine q_then ?_
    refine c_ret ?_
    refine q_then_ret ?_
    obtain ⟨hr0, hr1⟩ : (([] : List Int) = Flight.who l) ∧ (([] : List Int) = Flight.when_ l) := by
      refine ⟨?_, ?_⟩
      · first | (simp [Flight.who, Flight.when_, *]; done) | (simp_all [Flight.who, Flight.when_, List.take_of_length_le])
      · first | (simp [Flight.who, Flight.when_, *]; done) | (simp_all [Flight.who, Flight.when_, List.take_of_length_le])
    refine q_endM (p := (none, 0, none, 0)) (fun _ => False) (rt3 rfl (r_tmp rfl) (r_tmp rfl) (r_tmp rfl)) (i := 0) rfl ?_ ?_ ?_
    · simp only [← hr0, ← hr1, List.length_nil]
    · intro w hw b hb; exact hb.elim
    · intro w hw; exact ⟨by rw [← hr0]; exact SlR.nil tInt _ w, by rw [← hr1]; exact SlR.nil tInt _ w⟩
  · simp only [bne_eq_false_iff_eq] at hc1
    refine c_skip ?_
    refine q_then ?_
    refine c_seq ?_
    refine c_region ?_
    refine o_pure (p_assign (v := .slice none 0 0) rfl) rfl rfl rfl ?_
    refine o_pure (p_assign (v := .slice none 0 0) rfl) rfl rfl rfl ?_
    refine o_nil ?_
    refine q_then ?_
    refine c_seq ?_
    refine c_seq ?_
    refine c_region ?_
    refine o_pure (p_move (v := .slice al l.length cl) rfl) rfl rfl rfl ?_
    refine o_callM rfl (plan_ok l al cl (by first | assumption | omega | exact Flight.check_len' (by assumption))) hf48 (fun w hw => (rd_base (i := 0) rfl hl) w hw) rfl (fun _ _ _ _ ha hA => SlO.agree ha hA) ?_
    rintro ⟨a4, c5⟩ S2
    refine o_pure (p_len_slice (len := (Flight.plan l).length) rfl rfl Try.underlying69) rfl rfl rfl ?_
    refine o_pure (p_move (v := .int .i64 0) rfl) rfl rfl rfl ?_
    refine o_nil ?_
    refine q_then ?_
    refine c_block ?_
    refine c_ownNil tInt ?_
    refine c_ownNil tInt ?_
    refine c_loop (St := List Int × Option Addr × Nat × (Nat → Prop) × List Int × Option Addr × Nat × (Nat → Prop) × Nat)
      (fun ⟨who, awho, cwho, Swho, when_, awhen_, cwhen_, Swhen_, k⟩ => [(6, .slice awho who.length cwho), (7, .slice awhen_ when_.length cwhen_), (16, .slice a4 (Flight.plan l).length c5), (17, .int .i64 ((Flight.plan l).length : Int)), (18, .int .i64 (k : Int))])
      (fun ⟨who, awho, cwho, Swho, when_, awhen_, cwhen_, Swhen_, k⟩ => [own tInt Swhen_ awhen_ cwhen_ when_, own tInt Swho awho cwho who, own tLoad S2 a4 c5 (Flight.plan l), base w0])
      (fun ⟨who, awho, cwho, Swho, when_, awhen_, cwhen_, Swhen_, k⟩ => k ≤ (Flight.plan l).length ∧ who = ((Flight.plan l).take k).map (·.who) ∧ when_ = ((Flight.plan l).take k).map (·.ends))
      (fun ⟨who, awho, cwho, Swho, when_, awhen_, cwhen_, Swhen_, k⟩ => (Flight.plan l).length - k)
      ([], none, 0, (fun _ => False), [], none, 0, (fun _ => False), 0) ?_ (Sub.cons rfl (Sub.cons rfl (Sub.cons rfl (Sub.cons rfl (Sub.cons rfl (Sub.nil _)))))) (fun _ hw => hw) ?_
    · simp
    rintro ⟨who, awho, cwho, Swho, when_, awhen_, cwhen_, Swhen_, k⟩ hI K hK8
    obtain ⟨hk, hw1, hw2⟩ := hI
    have hpl := Flight.plan_length l
    have h60 := Flight.check_len hc1
    have hwl1 : who.length = k := by rw [hw1]; simp; omega
    have hwl2 : when_.length = k := by rw [hw2]; simp; omega
    show SC Try.prog 35 w0 _ _ [(6, .slice awho who.length cwho), (7, .slice awhen_ when_.length cwhen_), (16, .slice a4 (Flight.plan l).length c5), (17, .int .i64 ((Flight.plan l).length : Int)), (18, .int .i64 (k : Int))] [own tInt Swhen_ awhen_ cwhen_ when_, own tInt Swho awho cwho who, own tLoad S2 a4 c5 (Flight.plan l), base w0]
    refine c_seq ?_
    refine c_region ?_
    refine o_pure (p_lt (p := (k : Int)) (q := ((Flight.plan l).length : Int)) rfl rfl) rfl rfl rfl ?_
    refine o_nil ?_
    refine q_then ?_
    refine c_seq ?_
    refine c_cond (b := decide ((k : Int) < ((Flight.plan l).length : Int))) rfl (fun hc9 => ?_) (fun hc9 => ?_)
    · simp only [decide_eq_true_eq] at hc9
      refine c_skip ?_
      refine q_then ?_
      refine c_seq ?_
      refine c_block ?_
      refine c_seq ?_
      refine c_region ?_
      refine o_pure (p_indexAddr (L := (Flight.plan l)) (T := tLoad) (i := (k : Int)) rfl rfl (rd_own (i := 2) rfl) Try.underlying69 sz72 (by omega) (by omega)) rfl rfl rfl ?_
      refine o_pure (p_loadEn (i := k) (T := tLoad) (L := (Flight.plan l)) (vs := [.int .i64 (((Flight.plan l)[k]).who), .int .i64 (((Flight.plan l)[k]).ends)]) rfl (rd_own (i := 2) rfl) (by first | assumption | omega) sh72 rfl) rfl rfl rfl ?_
      refine o_alloc ze72 rfl (fun B10 => ?_)
      refine o_storeN (i := 0) (vs := [.int .i64 (((Flight.plan l)[k]).who), .int .i64 (((Flight.plan l)[k]).ends)]) (cs' := [.int .i64 (((Flight.plan l)[k]).who), .int .i64 (((Flight.plan l)[k]).ends)]) rfl rfl rfl sz72 rfl rfl rfl rfl ?_
      refine o_nil ?_
      refine q_then ?_
      refine c_cut (G := Option Addr × Nat × (Nat → Prop) × Option Addr × Nat × (Nat → Prop)) (fun ⟨a11_4, c11_4, S11_4, a11_9, c11_9, S11_9⟩ => [(6, .slice a11_4 (who ++ [((Flight.plan l)[k]).who]).length c11_4), (7, .slice a11_9 (when_ ++ [((Flight.plan l)[k]).ends]).length c11_9), (16, .slice a4 (Flight.plan l).length c5), (17, .int .i64 ((Flight.plan l).length : Int)), (18, .int .i64 (k : Int))]) (fun ⟨a11_4, c11_4, S11_4, a11_9, c11_9, S11_9⟩ => [box B10 [.int .i64 (((Flight.plan l)[k]).who), .int .i64 (((Flight.plan l)[k]).ends)] 72, own tInt S11_9 a11_9 c11_9 (when_ ++ [((Flight.plan l)[k]).ends]), own tInt S11_4 a11_4 c11_4 (who ++ [((Flight.plan l)[k]).who]), own tLoad S2 a4 c5 (Flight.plan l), base w0]) (fun K hK12 => ?_) ?_
      · refine c_held hmix [box B10 [.int .i64 (((Flight.plan l)[k]).who), .int .i64 (((Flight.plan l)[k]).ends)] 72, own tLoad S2 a4 c5 (Flight.plan l), base w0] rfl rfl ?_
        refine h_take (i := 0) (ls := #[true, false, false, false, false, false, false, false, false, false, false, false]) rfl (by kernel_rfl) (by kernel_rfl) (by kernel_rfl) (fun _ _ _ h => h) (p_move (v := .slice awho who.length cwho) rfl) rfl rfl rfl (fun _ hw => HeapIs.drop hw (List.Sublist.cons_cons _ (List.Sublist.cons _ (List.Sublist.cons _ (List.Sublist.cons_cons _ (List.Sublist.cons_cons _ (List.Sublist.slnil))))))) rfl ?_
        refine h_take (i := 1) (ls := #[true, true, false, false, false, false, false, false, false, false, false, false]) rfl (by kernel_rfl) (by kernel_rfl) (by kernel_rfl) (fun _ _ _ h => h) (p_fieldAddr (B := B10) (j := 0) (j' := 0) rfl fo72_0 rfl) rfl rfl rfl (fun _ hw => HeapIs.drop hw (List.Sublist.cons_cons _ (List.Sublist.cons _ (List.Sublist.cons _ (List.Sublist.cons_cons _ (List.Sublist.cons_cons _ (List.Sublist.slnil))))))) rfl ?_
        refine h_take (i := 2) (ls := #[true, true, true, false, false, false, false, false, false, false, false, false]) rfl (by kernel_rfl) (by kernel_rfl) (by kernel_rfl) (fun _ _ _ h => h) (p_load (i := 0) (v := .int .i64 (((Flight.plan l)[k]).who)) rfl rfl sh3 rfl) rfl rfl rfl (fun _ hw => HeapIs.drop hw (List.Sublist.cons_cons _ (List.Sublist.cons _ (List.Sublist.cons _ (List.Sublist.cons_cons _ (List.Sublist.cons_cons _ (List.Sublist.slnil))))))) rfl ?_
        refine h_take (i := 5) (ls := #[true, true, true, false, false, true, false, false, false, false, false, false]) rfl (by kernel_rfl) (by kernel_rfl) (by kernel_rfl) (fun _ _ _ h => h) (p_move (v := .slice awhen_ when_.length cwhen_) rfl) rfl rfl rfl (fun _ hw => HeapIs.drop hw (List.Sublist.cons_cons _ (List.Sublist.cons _ (List.Sublist.cons _ (List.Sublist.cons_cons _ (List.Sublist.cons_cons _ (List.Sublist.slnil))))))) rfl ?_
        refine h_take (i := 6) (ls := #[true, true, true, false, false, true, true, false, false, false, false, false]) rfl (by kernel_rfl) (by kernel_rfl) (by kernel_rfl) (fun _ _ _ h => h) (p_fieldAddr (B := B10) (j := 0) (j' := 1) rfl fo72_1 rfl) rfl rfl rfl (fun _ hw => HeapIs.drop hw (List.Sublist.cons_cons _ (List.Sublist.cons _ (List.Sublist.cons _ (List.Sublist.cons_cons _ (List.Sublist.cons_cons _ (List.Sublist.slnil))))))) rfl ?_
        refine h_take (i := 7) (ls := #[true, true, true, false, false, true, true, true, false, false, false, false]) rfl (by kernel_rfl) (by kernel_rfl) (by kernel_rfl) (fun _ _ _ h => h) (p_load (i := 0) (v := .int .i64 (((Flight.plan l)[k]).ends)) rfl rfl sh3 rfl) rfl rfl rfl (fun _ hw => HeapIs.drop hw (List.Sublist.cons_cons _ (List.Sublist.cons _ (List.Sublist.cons _ (List.Sublist.cons_cons _ (List.Sublist.cons_cons _ (List.Sublist.slnil))))))) rfl ?_
        refine h_two (i := 3) (j := 8) (ls := #[true, true, true, true, false, true, true, true, false, false, false, false]) (ls' := #[true, true, true, false, false, true, true, true, true, false, false, false]) (by kernel_rfl) rfl rfl rfl rfl ?_ ?_
        · refine o_buildSlice (m := 1) (T := tInt) (L := [((Flight.plan l)[k]).who]) (vs := [.int .i64 (((Flight.plan l)[k]).who)]) rfl rfl rfl rfl Try.underlying38 sz3 (by decide) ze3 rfl (by decide) rfl (fun S11_3 a11_3 => ?_)
          refine o_nil ?_
          refine h_next (fun _ hw => HeapIs.drop hw (List.Sublist.cons _ (List.Sublist.cons_cons _ (List.Sublist.cons _ (List.Sublist.cons _ (List.Sublist.cons_cons _ (List.Sublist.cons_cons _ (List.Sublist.slnil)))))))) ?_
          refine h_two (i := 4) (j := 8) (ls := #[true, true, true, true, true, true, true, true, false, false, false, false]) (ls' := #[true, true, true, true, false, true, true, true, true, false, false, false]) (by kernel_rfl) rfl rfl rfl rfl ?_ ?_
          · refine o_append (i := 3) (L := who) (M := [((Flight.plan l)[k]).who]) (T := tInt) rfl rfl rfl (rd_own (i := 0) rfl) Try.underlying38 Try.underlying38 (by intro k h; cases h) el3 (by intro z; simp [tInt, one1]) (by decide) (by simp only [List.length_cons, List.length_nil]; omega) rfl (fun a11_4 c11_4 S11_4 => ?_)
            refine o_nil ?_
            refine h_next (fun _ hw => HeapIs.drop hw (List.Sublist.cons _ (List.Sublist.cons_cons _ (List.Sublist.cons _ (List.Sublist.cons _ (List.Sublist.cons_cons _ (List.Sublist.cons_cons _ (List.Sublist.slnil)))))))) ?_
            refine h_one (i := 8) (ls := #[true, true, true, true, true, true, true, true, true, false, false, false]) (by kernel_rfl) rfl rfl ?_
            refine o_buildSlice (m := 1) (T := tInt) (L := [((Flight.plan l)[k]).ends]) (vs := [.int .i64 (((Flight.plan l)[k]).ends)]) rfl rfl rfl rfl Try.underlying38 sz3 (by decide) ze3 rfl (by decide) rfl (fun S11_8 a11_8 => ?_)
            refine o_nil ?_
            refine h_next (fun _ hw => HeapIs.drop hw (List.Sublist.cons _ (List.Sublist.cons _ (List.Sublist.cons_cons _ (List.Sublist.cons _ (List.Sublist.cons _ (List.Sublist.cons_cons _ (List.Sublist.cons_cons _ (List.Sublist.slnil))))))))) ?_
            refine h_one (i := 9) (ls := #[true, true, true, true, true, true, true, true, true, true, false, false]) (by kernel_rfl) rfl rfl ?_
            refine o_append (i := 3) (L := when_) (M := [((Flight.plan l)[k]).ends]) (T := tInt) rfl rfl rfl (rd_own (i := 0) rfl) Try.underlying38 Try.underlying38 (by intro k h; cases h) el3 (by intro z; simp [tInt, one1]) (by decide) (by simp only [List.length_cons, List.length_nil]; omega) rfl (fun a11_9 c11_9 S11_9 => ?_)
            refine o_nil ?_
            refine h_next (fun _ hw => HeapIs.drop hw (List.Sublist.cons _ (List.Sublist.cons _ (List.Sublist.cons_cons _ (List.Sublist.cons _ (List.Sublist.cons _ (List.Sublist.cons_cons _ (List.Sublist.cons_cons _ (List.Sublist.slnil))))))))) ?_
            refine h_take (i := 10) (ls := #[true, true, true, true, true, true, true, true, true, true, true, false]) rfl (by kernel_rfl) (by kernel_rfl) (by kernel_rfl) (fun _ _ _ h => h) (p_assign (v := .slice a11_4 (who ++ [((Flight.plan l)[k]).who]).length c11_4) rfl) rfl rfl rfl (fun _ hw => HeapIs.drop hw (List.Sublist.cons _ (List.Sublist.cons _ (List.Sublist.cons_cons _ (List.Sublist.cons _ (List.Sublist.cons _ (List.Sublist.cons_cons _ (List.Sublist.cons_cons _ (List.Sublist.slnil))))))))) rfl ?_
            refine h_take (i := 11) (ls := #[true, true, true, true, true, true, true, true, true, true, true, true]) rfl (by kernel_rfl) (by kernel_rfl) (by kernel_rfl) (fun _ _ _ h => h) (p_assign (v := .slice a11_9 (when_ ++ [((Flight.plan l)[k]).ends]).length c11_9) rfl) rfl rfl rfl (fun _ hw => HeapIs.drop hw (List.Sublist.cons _ (List.Sublist.cons _ (List.Sublist.cons_cons _ (List.Sublist.cons _ (List.Sublist.cons _ (List.Sublist.cons_cons _ (List.Sublist.cons_cons _ (List.Sublist.slnil))))))))) rfl ?_
            refine h_done (by kernel_rfl) ?_
            refine q_kont hK12 (a11_4, c11_4, S11_4, a11_9, c11_9, S11_9) (Sub.cons rfl (Sub.cons rfl (Sub.cons rfl (Sub.cons rfl (Sub.cons rfl (Sub.nil _)))))) (fun _ hw => HeapIs.drop hw (List.Sublist.cons _ (List.Sublist.cons _ (List.Sublist.cons_cons _ (List.Sublist.cons_cons _ (List.Sublist.cons_cons _ (List.Sublist.cons_cons _ (List.Sublist.cons_cons _ (List.Sublist.slnil)))))))))
          · refine o_buildSlice (m := 1) (T := tInt) (L := [((Flight.plan l)[k]).ends]) (vs := [.int .i64 (((Flight.plan l)[k]).ends)]) rfl rfl rfl rfl Try.underlying38 sz3 (by decide) ze3 rfl (by decide) rfl (fun S11_8 a11_8 => ?_)
            refine o_nil ?_
            refine h_next (fun _ hw => HeapIs.drop hw (List.Sublist.cons _ (List.Sublist.cons _ (List.Sublist.cons_cons _ (List.Sublist.cons _ (List.Sublist.cons _ (List.Sublist.cons_cons _ (List.Sublist.cons_cons _ (List.Sublist.slnil))))))))) ?_
            refine h_one (i := 4) (ls := #[true, true, true, true, true, true, true, true, true, false, false, false]) (by kernel_rfl) rfl rfl ?_
            refine o_append (i := 4) (L := who) (M := [((Flight.plan l)[k]).who]) (T := tInt) rfl rfl rfl (rd_own (i := 1) rfl) Try.underlying38 Try.underlying38 (by intro k h; cases h) el3 (by intro z; simp [tInt, one1]) (by decide) (by simp only [List.length_cons, List.length_nil]; omega) rfl (fun a11_4 c11_4 S11_4 => ?_)
            refine o_nil ?_
            refine h_next (fun _ hw => HeapIs.drop hw (List.Sublist.cons _ (List.Sublist.cons _ (List.Sublist.cons_cons _ (List.Sublist.cons _ (List.Sublist.cons _ (List.Sublist.cons_cons _ (List.Sublist.cons_cons _ (List.Sublist.slnil))))))))) ?_
            refine h_one (i := 9) (ls := #[true, true, true, true, true, true, true, true, true, true, false, false]) (by kernel_rfl) rfl rfl ?_
            refine o_append (i := 3) (L := when_) (M := [((Flight.plan l)[k]).ends]) (T := tInt) rfl rfl rfl (rd_own (i := 0) rfl) Try.underlying38 Try.underlying38 (by intro k h; cases h) el3 (by intro z; simp [tInt, one1]) (by decide) (by simp only [List.length_cons, List.length_nil]; omega) rfl (fun a11_9 c11_9 S11_9 => ?_)
            refine o_nil ?_
            refine h_next (fun _ hw => HeapIs.drop hw (List.Sublist.cons _ (List.Sublist.cons _ (List.Sublist.cons_cons _ (List.Sublist.cons _ (List.Sublist.cons _ (List.Sublist.cons_cons _ (List.Sublist.cons_cons _ (List.Sublist.slnil))))))))) ?_
            refine h_take (i := 10) (ls := #[true, true, true, true, true, true, true, true, true, true, true, false]) rfl (by kernel_rfl) (by kernel_rfl) (by kernel_rfl) (fun _ _ _ h => h) (p_assign (v := .slice a11_4 (who ++ [((Flight.plan l)[k]).who]).length c11_4) rfl) rfl rfl rfl (fun _ hw => HeapIs.drop hw (List.Sublist.cons _ (List.Sublist.cons _ (List.Sublist.cons_cons _ (List.Sublist.cons _ (List.Sublist.cons _ (List.Sublist.cons_cons _ (List.Sublist.cons_cons _ (List.Sublist.slnil))))))))) rfl ?_
            refine h_take (i := 11) (ls := #[true, true, true, true, true, true, true, true, true, true, true, true]) rfl (by kernel_rfl) (by kernel_rfl) (by kernel_rfl) (fun _ _ _ h => h) (p_assign (v := .slice a11_9 (when_ ++ [((Flight.plan l)[k]).ends]).length c11_9) rfl) rfl rfl rfl (fun _ hw => HeapIs.drop hw (List.Sublist.cons _ (List.Sublist.cons _ (List.Sublist.cons_cons _ (List.Sublist.cons _ (List.Sublist.cons _ (List.Sublist.cons_cons _ (List.Sublist.cons_cons _ (List.Sublist.slnil))))))))) rfl ?_
            refine h_done (by kernel_rfl) ?_
            refine q_kont hK12 (a11_4, c11_4, S11_4, a11_9, c11_9, S11_9) (Sub.cons rfl (Sub.cons rfl (Sub.cons rfl (Sub.cons rfl (Sub.cons rfl (Sub.nil _)))))) (fun _ hw => HeapIs.drop hw (List.Sublist.cons _ (List.Sublist.cons _ (List.Sublist.cons_cons _ (List.Sublist.cons_cons _ (List.Sublist.cons_cons _ (List.Sublist.cons_cons _ (List.Sublist.cons_cons _ (List.Sublist.slnil)))))))))
        · refine o_buildSlice (m := 1) (T := tInt) (L := [((Flight.plan l)[k]).ends]) (vs := [.int .i64 (((Flight.plan l)[k]).ends)]) rfl rfl rfl rfl Try.underlying38 sz3 (by decide) ze3 rfl (by decide) rfl (fun S11_8 a11_8 => ?_)
          refine o_nil ?_
          refine h_next (fun _ hw => HeapIs.drop hw (List.Sublist.cons _ (List.Sublist.cons_cons _ (List.Sublist.cons _ (List.Sublist.cons _ (List.Sublist.cons_cons _ (List.Sublist.cons_cons _ (List.Sublist.slnil)))))))) ?_
          refine h_one (i := 3) (ls := #[true, true, true, true, false, true, true, true, true, false, false, false]) (by kernel_rfl) rfl rfl ?_
          refine o_buildSlice (m := 1) (T := tInt) (L := [((Flight.plan l)[k]).who]) (vs := [.int .i64 (((Flight.plan l)[k]).who)]) rfl rfl rfl rfl Try.underlying38 sz3 (by decide) ze3 rfl (by decide) rfl (fun S11_3 a11_3 => ?_)
          refine o_nil ?_
          refine h_next (fun _ hw => HeapIs.drop hw (List.Sublist.cons _ (List.Sublist.cons _ (List.Sublist.cons_cons _ (List.Sublist.cons _ (List.Sublist.cons _ (List.Sublist.cons_cons _ (List.Sublist.cons_cons _ (List.Sublist.slnil))))))))) ?_
          refine h_one (i := 4) (ls := #[true, true, true, true, true, true, true, true, true, false, false, false]) (by kernel_rfl) rfl rfl ?_
          refine o_append (i := 4) (L := who) (M := [((Flight.plan l)[k]).who]) (T := tInt) rfl rfl rfl (rd_own (i := 0) rfl) Try.underlying38 Try.underlying38 (by intro k h; cases h) el3 (by intro z; simp [tInt, one1]) (by decide) (by simp only [List.length_cons, List.length_nil]; omega) rfl (fun a11_4 c11_4 S11_4 => ?_)
          refine o_nil ?_
          refine h_next (fun _ hw => HeapIs.drop hw (List.Sublist.cons _ (List.Sublist.cons _ (List.Sublist.cons_cons _ (List.Sublist.cons _ (List.Sublist.cons _ (List.Sublist.cons_cons _ (List.Sublist.cons_cons _ (List.Sublist.slnil))))))))) ?_
          refine h_one (i := 9) (ls := #[true, true, true, true, true, true, true, true, true, true, false, false]) (by kernel_rfl) rfl rfl ?_
          refine o_append (i := 3) (L := when_) (M := [((Flight.plan l)[k]).ends]) (T := tInt) rfl rfl rfl (rd_own (i := 1) rfl) Try.underlying38 Try.underlying38 (by intro k h; cases h) el3 (by intro z; simp [tInt, one1]) (by decide) (by simp only [List.length_cons, List.length_nil]; omega) rfl (fun a11_9 c11_9 S11_9 => ?_)
          refine o_nil ?_
          refine h_next (fun _ hw => HeapIs.drop hw (List.Sublist.cons _ (List.Sublist.cons _ (List.Sublist.cons_cons _ (List.Sublist.cons _ (List.Sublist.cons _ (List.Sublist.cons_cons _ (List.Sublist.cons_cons _ (List.Sublist.slnil))))))))) ?_
          refine h_take (i := 10) (ls := #[true, true, true, true, true, true, true, true, true, true, true, false]) rfl (by kernel_rfl) (by kernel_rfl) (by kernel_rfl) (fun _ _ _ h => h) (p_assign (v := .slice a11_4 (who ++ [((Flight.plan l)[k]).who]).length c11_4) rfl) rfl rfl rfl (fun _ hw => HeapIs.drop hw (List.Sublist.cons _ (List.Sublist.cons _ (List.Sublist.cons_cons _ (List.Sublist.cons _ (List.Sublist.cons _ (List.Sublist.cons_cons _ (List.Sublist.cons_cons _ (List.Sublist.slnil))))))))) rfl ?_
          refine h_take (i := 11) (ls := #[true, true, true, true, true, true, true, true, true, true, true, true]) rfl (by kernel_rfl) (by kernel_rfl) (by kernel_rfl) (fun _ _ _ h => h) (p_assign (v := .slice a11_9 (when_ ++ [((Flight.plan l)[k]).ends]).length c11_9) rfl) rfl rfl rfl (fun _ hw => HeapIs.drop hw (List.Sublist.cons _ (List.Sublist.cons _ (List.Sublist.cons_cons _ (List.Sublist.cons _ (List.Sublist.cons _ (List.Sublist.cons_cons _ (List.Sublist.cons_cons _ (List.Sublist.slnil))))))))) rfl ?_
          refine h_done (by kernel_rfl) ?_
          refine q_kont hK12 (a11_4, c11_4, S11_4, a11_9, c11_9, S11_9) (Sub.cons rfl (Sub.cons rfl (Sub.cons rfl (Sub.cons rfl (Sub.cons rfl (Sub.nil _)))))) (fun _ hw => HeapIs.drop hw (List.Sublist.cons _ (List.Sublist.cons _ (List.Sublist.cons_cons _ (List.Sublist.cons_cons _ (List.Sublist.cons_cons _ (List.Sublist.cons_cons _ (List.Sublist.cons_cons _ (List.Sublist.slnil)))))))))
      rintro ⟨a11_4, c11_4, S11_4, a11_9, c11_9, S11_9⟩
      show SQ 35 w0 _ _ [(6, .slice a11_4 (who ++ [((Flight.plan l)[k]).who]).length c11_4), (7, .slice a11_9 (when_ ++ [((Flight.plan l)[k]).ends]).length c11_9), (16, .slice a4 (Flight.plan l).length c5), (17, .int .i64 ((Flight.plan l).length : Int)), (18, .int .i64 (k : Int))] [box B10 [.int .i64 (((Flight.plan l)[k]).who), .int .i64 (((Flight.plan l)[k]).ends)] 72, own tInt S11_9 a11_9 c11_9 (when_ ++ [((Flight.plan l)[k]).ends]), own tInt S11_4 a11_4 c11_4 (who ++ [((Flight.plan l)[k]).who]), own tLoad S2 a4 c5 (Flight.plan l), base w0]
      refine q_block_normal (q_then ?_)
      refine c_region ?_
      refine o_pure (p_addb (p := (k : Int)) (q := 1) rfl rfl (by omega)) rfl rfl rfl ?_
      refine o_pure (p_move (v := .int .i64 ((k : Int) + 1)) rfl) rfl rfl rfl ?_
      refine o_nil ?_
      refine q_round hK8 ((who ++ [((Flight.plan l)[k]).who]), a11_4, c11_4, S11_4, (when_ ++ [((Flight.plan l)[k]).ends]), a11_9, c11_9, S11_9, k + 1) ?_ ?_ ?_ ?_
      · clear hK8
        refine ⟨by omega, ?_, ?_⟩
        · rw [List.take_succ_eq_append_getElem (by omega), List.map_append, ← hw1]; rfl
        · rw [List.take_succ_eq_append_getElem (by omega), List.map_append, ← hw2]; rfl
      · (try dsimp only); omega
      · exact Sub.cons rfl (Sub.cons rfl (Sub.cons rfl (Sub.cons rfl (Sub.cons rfl (Sub.nil _)))))
      · exact fun _ hw => HeapIs.drop hw (List.Sublist.cons _ (List.Sublist.refl _))
    · simp only [decide_eq_false_iff_not, Int.not_lt] at hc9
      refine c_exit ?_
      refine q_then_exit (q_then_exit (q_block_exit (q_then ?_)))
      refine c_seq ?_
      refine c_region ?_
      refine o_pure (p_move (v := .slice awho who.length cwho) rfl) rfl rfl rfl ?_
      refine o_pure (p_move (v := .slice awhen_ when_.length cwhen_) rfl) rfl rfl rfl ?_
      refine o_pure (p_assign (v := .slice awho who.length cwho) rfl) rfl rfl rfl ?_
      refine o_pure (p_assign (v := .slice awhen_ when_.length cwhen_) rfl) rfl rfl rfl ?_
      refine o_pure (p_assign (v := .int .i64 0) rfl) rfl rfl rfl ?_
      refine o_nil ?_
      refine q_then ?_
      refine c_ret ?_
      obtain ⟨hr0, hr1, hr2⟩ : ((who : List Int) = Flight.who l) ∧ ((when_ : List Int) = Flight.when_ l) ∧ ((.int .i64 0 : Value) = .int .i64 (Flight.check l)) := by
        refine ⟨?_, ?_, ?_⟩
        · first | (simp [Flight.who, Flight.when_, *]; done) | (simp_all [Flight.who, Flight.when_, List.take_of_length_le])
        · first | (simp [Flight.who, Flight.when_, *]; done) | (simp_all [Flight.who, Flight.when_, List.take_of_length_le])
        · first | (simp [Flight.who, Flight.when_, *]; done) | (simp_all [Flight.who, Flight.when_, List.take_of_length_le])
      refine q_endM (p := (awho, cwho, awhen_, cwhen_)) (fun b => Swhen_ b ∨ Swho b) (rt3 rfl (r_tmp rfl) (r_tmp rfl) (r_tmp rfl)) (i := 3) rfl ?_ ?_ ?_
      · simp only [← hr0, ← hr1, hr2, List.length_nil]
      · intro w hw b hb; rcases hb with hb | hb
        · exact hw.above (i := 3) (j := 0) (by decide) rfl rfl b hb
        · exact hw.above (i := 3) (j := 1) (by decide) rfl rfl b hb
      · intro w hw; exact ⟨by rw [← hr0]; have h := (hw.at (i := 1) rfl).here; exact SlR.mono (fun b hb => by simp [hb]) (SlO.toR h), by rw [← hr1]; have h := (hw.at (i := 0) rfl).here; exact SlR.mono (fun b hb => by simp [hb]) (SlO.toR h)⟩
end Go.Proofs.Ythbfdhphnofacaa
