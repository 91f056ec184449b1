/- The walks, printed by a program from the translation and a specification. -/
import Derived.Test.YtgjdmnljnimamaaOpF
import Derived.Test.YtgjdmnljnimamaaOpLaw2
import Derived.Test.YtgjdmnljnimamaaOpW8
namespace Go.Proofs.Ytgjdmnljnimamaa
open Go.Sx Go.RowKit
set_option maxHeartbeats 8000000 in
set_option maxRecDepth 100000 in
theorem rfewest_step (nrec : Nat) (IH : ∀ (l : List Int) (al : Option Addr) (cl : Nat) (at_ : Int) (in_ : List Int) (ain_ : Option Addr) (cin_ : Nat) (room : Int) (hy1 : 0 ≤ at_ ∧ at_ ≤ (l.length : Int) ∧ l.length ≤ 9 ∧ (in_.length : Int) ≤ at_), l.length - at_.toNat < nrec → Fn0 Try.prog 74 [.slice al l.length cl, .int .i64 at_, .slice ain_ in_.length cin_, .int .i64 room] (fun w => Rd tInt w al cl l ∧ Rd tInt w ain_ cin_ in_) (.int .i64 (Opt.few room ((l.length : Int) + 1) in_ (l.drop at_.toNat)))) (l : List Int) (al : Option Addr) (cl : Nat) (at_ : Int) (in_ : List Int) (ain_ : Option Addr) (cin_ : Nat) (room : Int) (hy1 : 0 ≤ at_ ∧ at_ ≤ (l.length : Int) ∧ l.length ≤ 9 ∧ (in_.length : Int) ≤ at_) (hrec : l.length - at_.toNat = nrec) : Fn0 Try.prog 74 [.slice al l.length cl, .int .i64 at_, .slice ain_ in_.length cin_, .int .i64 room] (fun w => Rd tInt w al cl l ∧ Rd tInt w ain_ cin_ in_) (.int .i64 (Opt.few room ((l.length : Int) + 1) in_ (l.drop at_.toNat))) := by
  refine fn0 (nt := 81) (F0 := [(0, .slice al l.length cl), (1, .int .i64 at_), (2, .slice ain_ in_.length cin_), (3, .int .i64 room)]) Try.func74 rfl Try.ntmps74 rfl rfl (fun w0 hpre => ?_)
  obtain ⟨hl, hin_⟩ := hpre
  have hlhl := hl.2.1
  have hlhin_ := hin_.2.1
  refine c_seq ?_
  refine c_region ?_
  refine o_pure (p_assign (v := .int .i64 0) rfl) rfl rfl rfl ?_
  refine o_nil ?_
  refine q_then ?_
  refine c_seq ?_
  refine c_block ?_
  refine c_loop (St := Int)
    (fun a2 => [(0, .slice al l.length cl), (1, .int .i64 a2), (2, .slice ain_ in_.length cin_), (3, .int .i64 room)])
    (fun a2 => [base w0])
    (fun a2 => Opt.WI l in_ room ((l.length : Int) + 1) at_ a2)
    (fun a2 => ((l.length : Int) - a2).toNat)
    at_ ?_ (Sub.cons rfl (Sub.cons rfl (Sub.cons rfl (Sub.cons rfl (Sub.nil _))))) (fun _ hw => hw) ?_
  · exact Opt.WI.start (by omega)
  rintro a2 hI K hK1
  have hlo := hI.lo
  have hhi := hI.hi
  show SC _ _ Try.prog 81 w0 _ _ [(0, .slice al l.length cl), (1, .int .i64 a2), (2, .slice ain_ in_.length cin_), (3, .int .i64 room)] [base w0]
  refine c_seq ?_
  refine c_seq ?_
  refine c_region ?_
  refine o_pure (p_move (v := .int .i64 a2) rfl) rfl rfl rfl ?_
  refine o_pure (p_move (v := .slice al l.length cl) rfl) rfl rfl rfl ?_
  refine o_pure (p_len_slice (len := l.length) rfl rfl Try.underlying23) rfl rfl rfl ?_
  refine o_pure (p_lt (p := a2) (q := (l.length : Int)) rfl rfl) rfl rfl rfl ?_
  refine o_pure (p_move (v := .bool (decide (a2 < (l.length : Int)))) rfl) rfl rfl rfl ?_
  refine o_and (p := 24) 7 (Ref.hasInt in_ (l.getD a2.toNat default)) ?_ ?_ ?_
  · intro hb2 hk
    simp only [decide_eq_true_eq] at hb2
    refine o_unguard 17 rfl rfl ?_
    refine o_pure (p_move (v := .slice ain_ in_.length cin_) rfl) rfl rfl rfl ?_
    refine o_unguard 17 rfl rfl ?_
    refine o_pure (p_move (v := .slice al l.length cl) rfl) rfl rfl rfl ?_
    refine o_unguard 17 rfl rfl ?_
    refine o_pure (p_move (v := .int .i64 a2) rfl) rfl rfl rfl ?_
    refine o_unguard 17 rfl rfl ?_
    refine o_pure (p_indexAddr (L := l) (T := tInt) (i := a2) rfl rfl (rd_base (i := 0) rfl hl) Try.underlying23 sz3 (by omega) (by omega)) rfl rfl rfl ?_
    refine o_unguard 17 rfl rfl ?_
    refine o_pure (p_loadE1 (i := a2.toNat) (T := tInt) (L := l) (v := .int .i64 (l.getD a2.toNat default)) rfl (rd_base (i := 0) rfl hl) (by first | assumption | omega) sh3 (congrArg tInt.enc (getd_at (by first | assumption | omega) default))) rfl rfl rfl ?_
    refine o_unguard 17 rfl rfl ?_
    refine o_call0 (v := .bool (Ref.hasInt in_ (l.getD a2.toNat default))) rfl (hasInt_ok in_ ain_ cin_ (l.getD a2.toNat default)) hf36 (fun w hw => (rd_base (i := 0) rfl hin_) w hw) rfl ?_
    refine o_pure (p_pick_true (u := .bool (Ref.hasInt in_ (l.getD a2.toNat default))) rfl rfl) rfl rfl rfl ?_
    exact o_sub (Sub.cons rfl (Sub.skip rfl (Sub.skip rfl (Sub.skip rfl (Sub.skip rfl (Sub.skip rfl (Sub.skip rfl (Sub.skip rfl (Sub.skip rfl (Sub.refl _)))))))))) hk
  · intro hb2 hk
    refine o_guard_no rfl 17 rfl rfl rfl rfl rfl ?_
    refine o_guard_no rfl 17 rfl rfl rfl rfl rfl ?_
    refine o_guard_no rfl 17 rfl rfl rfl rfl rfl ?_
    refine o_guard_no rfl 17 rfl rfl rfl rfl rfl ?_
    refine o_guard_no rfl 17 rfl rfl rfl rfl rfl ?_
    refine o_guard_no rfl 17 rfl rfl rfl rfl rfl ?_
    refine o_pure (p_pick_false (v := .bool false) rfl rfl) rfl rfl rfl ?_
    exact o_sub (Sub.cons rfl (Sub.skip rfl (Sub.skip rfl (Sub.skip rfl (Sub.skip rfl (Sub.skip rfl (Sub.skip rfl (Sub.skip rfl (Sub.skip rfl (Sub.refl _)))))))))) hk
  refine o_nil ?_
  refine q_then ?_
  refine c_cond (b := (decide (a2 < (l.length : Int)) && (Ref.hasInt in_ (l.getD a2.toNat default)))) rfl (fun hc3 => ?_) (fun hc3 => ?_)
  · simp only [Bool.and_eq_true, decide_eq_true_eq] at hc3
    have ha2 : a2.toNat < l.length := by omega
    refine c_skip ?_
    refine q_then ?_
    refine c_block ?_
    refine c_region ?_
    refine o_pure (p_move (v := .int .i64 a2) rfl) rfl rfl rfl ?_
    refine o_pure (p_addb (p := a2) (q := 1) rfl rfl (by first | omega | (have hq := @Opt.few_bd room ((l.length : Int) + 1) (by omega); have hq2 := hq (t := l.drop (a2 + 1).toNat) (C := in_ ++ [(l.getD a2.toNat default)]); simp only [List.length_drop] at hq2; omega) | (have hq := @Opt.few_bd room ((l.length : Int) + 1) (by omega); have hq2 := hq (t := l.drop (a2 + 1).toNat) (C := in_.set k2 (l.getD a2.toNat default)); simp only [List.length_drop] at hq2; omega))) rfl rfl rfl ?_
    refine o_pure (p_assign (v := .int .i64 (a2 + 1)) rfl) rfl rfl rfl ?_
    refine o_nil ?_
    refine q_block_normal ?_
    refine q_round hK1 (a2 + 1) ?_ ?_ ?_ ?_
    · clear hK1
      exact hI.next (by omega) (by omega) (And.right (by assumption))
    · (try dsimp only); omega
    · exact Sub.cons rfl (Sub.cons rfl (Sub.cons rfl (Sub.cons rfl (Sub.nil _))))
    · exact fun _ hw => HeapIs.pick hw [0] (by decide) rfl
  · simp only [Bool.and_eq_false_iff, decide_eq_false_iff_not, Int.not_lt] at hc3
    have hWI := hI
    have hno := hc3
    refine c_exit ?_
    refine q_then_exit (q_then_exit (q_block_exit (q_then ?_)))
    refine c_seq ?_
    refine c_seq ?_
    refine c_region ?_
    refine o_pure (p_move (v := .int .i64 a2) rfl) rfl rfl rfl ?_
    refine o_pure (p_move (v := .slice al l.length cl) rfl) rfl rfl rfl ?_
    refine o_pure (p_len_slice (len := l.length) rfl rfl Try.underlying23) rfl rfl rfl ?_
    refine o_pure (p_eq (p := a2) (q := (l.length : Int)) rfl rfl) rfl rfl rfl ?_
    refine o_nil ?_
    refine q_then ?_
    refine c_cond (b := (a2 == (l.length : Int))) rfl (fun hc4 => ?_) (fun hc4 => ?_)
    · simp only [beq_iff_eq] at hc4
      refine c_seq ?_
      refine c_region ?_
      refine o_pure (p_assign (v := .int .i64 0) rfl) rfl rfl rfl ?_
      refine o_nil ?_
      refine q_then ?_
      refine c_ret ?_
      refine q_then_ret ?_
      have hr0 : (0 : Int) = (Opt.few room ((l.length : Int) + 1) in_ (l.drop at_.toNat)) := by
        first | exact hWI.end_ (by assumption) | (rw [hsp, if_pos (by assumption)]; done) | (rw [hsp, if_neg (by omega)]; exact hI.2.trans (by rw [show k2 = in_.length by omega]))
      refine q_end0 (v := .int .i64 0) (rt1 rfl (r_tmp rfl)) (i := 0) rfl ?_
      exact (by have hcc := congrArg (fun (y0 : Int) => (.int .i64 y0 : Value)) hr0; exact hcc)
    · simp only [beq_eq_false_iff_ne, ne_eq] at hc4
      have ha2 : a2.toNat < l.length := by omega
      have hsp := hWI.no ha2 (hno.resolve_left (by omega))
      rw [show a2.toNat + 1 = (a2 + 1).toNat by omega] at hsp
      refine c_skip ?_
      refine q_then ?_
      refine c_seq ?_
      refine c_seq ?_
      refine c_region ?_
      refine o_pure (p_move (v := .slice ain_ in_.length cin_) rfl) rfl rfl rfl ?_
      refine o_pure (p_len_slice (len := in_.length) rfl rfl Try.underlying23) rfl rfl rfl ?_
      refine o_pure (p_move (v := .int .i64 room) rfl) rfl rfl rfl ?_
      refine o_pure (p_lt (p := (in_.length : Int)) (q := room) rfl rfl) rfl rfl rfl ?_
      refine o_nil ?_
      refine q_then ?_
      refine c_cond (b := decide ((in_.length : Int) < room)) rfl (fun hc5 => ?_) (fun hc5 => ?_)
      · simp only [decide_eq_true_eq] at hc5
        refine c_seq ?_
        refine c_cut (G := (Nat → Prop) × Option Addr × Option Addr × Nat × (Nat → Prop)) (fun ⟨S6_10, a6_10, a6_11, c6_11, S6_11⟩ => [(8, .int .i64 (1 + (Opt.few room ((l.length : Int) + 1) (in_ ++ [(l.getD a2.toNat default)]) (l.drop (a2 + 1).toNat))))]) (fun ⟨S6_10, a6_10, a6_11, c6_11, S6_11⟩ => [own tInt S6_10 a6_10 ([(l.getD a2.toNat default)].length) ([(l.getD a2.toNat default)]), own tInt S6_11 a6_11 c6_11 (in_ ++ [(l.getD a2.toNat default)]), base w0]) (fun K hK7 => ?_) ?_
        · refine c_held hmix [base w0] rfl rfl ?_
          refine h_take (i := 0) (ls := #[true, false, false, false, false, false, false, false, false, false, false, false, false, false, false, false]) rfl (by kernel_rfl) (by kernel_rfl) (by kernel_rfl) (fun _ _ _ h => h) (p_move (v := .slice al l.length cl) rfl) rfl rfl rfl (fun _ hw => HeapIs.drop hw (List.Sublist.refl _)) rfl ?_
          refine h_take (i := 1) (ls := #[true, true, false, false, false, false, false, false, false, false, false, false, false, false, false, false]) rfl (by kernel_rfl) (by kernel_rfl) (by kernel_rfl) (fun _ _ _ h => h) (p_move (v := .int .i64 a2) rfl) rfl rfl rfl (fun _ hw => HeapIs.drop hw (List.Sublist.refl _)) rfl ?_
          refine h_take (i := 2) (ls := #[true, true, true, false, false, false, false, false, false, false, false, false, false, false, false, false]) rfl (by kernel_rfl) (by kernel_rfl) (by kernel_rfl) (fun _ _ _ h => h) (p_addb (p := a2) (q := 1) rfl rfl (by first | omega | (have hq := @Opt.few_bd room ((l.length : Int) + 1) (by omega); have hq2 := hq (t := l.drop (a2 + 1).toNat) (C := in_ ++ [(l.getD a2.toNat default)]); simp only [List.length_drop] at hq2; omega) | (have hq := @Opt.few_bd room ((l.length : Int) + 1) (by omega); have hq2 := hq (t := l.drop (a2 + 1).toNat) (C := in_.set k2 (l.getD a2.toNat default)); simp only [List.length_drop] at hq2; omega))) rfl rfl rfl (fun _ hw => HeapIs.drop hw (List.Sublist.refl _)) rfl ?_
          refine h_take (i := 4) (ls := #[true, true, true, false, true, false, false, false, false, false, false, false, false, false, false, false]) rfl (by kernel_rfl) (by kernel_rfl) (by kernel_rfl) (fun _ _ _ h => h) (p_move (v := .slice ain_ in_.length cin_) rfl) rfl rfl rfl (fun _ hw => HeapIs.drop hw (List.Sublist.refl _)) rfl ?_
          refine h_take (i := 6) (ls := #[true, true, true, false, true, false, true, false, false, false, false, false, false, false, false, false]) rfl (by kernel_rfl) (by kernel_rfl) (by kernel_rfl) (fun _ _ _ h => h) (p_move (v := .slice al l.length cl) rfl) rfl rfl rfl (fun _ hw => HeapIs.drop hw (List.Sublist.refl _)) rfl ?_
          refine h_take (i := 7) (ls := #[true, true, true, false, true, false, true, true, false, false, false, false, false, false, false, false]) rfl (by kernel_rfl) (by kernel_rfl) (by kernel_rfl) (fun _ _ _ h => h) (p_move (v := .int .i64 a2) rfl) rfl rfl rfl (fun _ hw => HeapIs.drop hw (List.Sublist.refl _)) rfl ?_
          refine h_take (i := 8) (ls := #[true, true, true, false, true, false, true, true, true, false, false, false, false, false, false, false]) rfl (by kernel_rfl) (by kernel_rfl) (by kernel_rfl) (fun _ _ _ h => h) (p_indexAddr (L := l) (T := tInt) (i := a2) rfl rfl (rd_base (i := 0) rfl hl) Try.underlying23 sz3 (by omega) (by omega)) rfl rfl rfl (fun _ hw => HeapIs.drop hw (List.Sublist.refl _)) rfl ?_
          refine h_take (i := 9) (ls := #[true, true, true, false, true, false, true, true, true, true, false, false, false, false, false, false]) rfl (by kernel_rfl) (by kernel_rfl) (by kernel_rfl) (fun _ _ _ h => h) (p_loadE1 (i := a2.toNat) (T := tInt) (L := l) (v := .int .i64 (l.getD a2.toNat default)) rfl (rd_base (i := 0) rfl hl) (by first | assumption | omega) sh3 (congrArg tInt.enc (getd_at (by first | assumption | omega) default))) rfl rfl rfl (fun _ hw => HeapIs.drop hw (List.Sublist.refl _)) rfl ?_
          refine h_take (i := 12) (ls := #[true, true, true, false, true, false, true, true, true, true, false, false, true, false, false, false]) rfl (by kernel_rfl) (by kernel_rfl) (by kernel_rfl) (fun _ _ _ h => h) (p_move (v := .int .i64 room) rfl) rfl rfl rfl (fun _ hw => HeapIs.drop hw (List.Sublist.refl _)) rfl ?_
          refine h_two (i := 3) (j := 10) (ls := #[true, true, true, true, true, false, true, true, true, true, false, false, true, false, false, false]) (ls' := #[true, true, true, false, true, false, true, true, true, true, true, false, true, false, false, false]) (by kernel_rfl) rfl rfl rfl rfl ?_ ?_
          · refine o_buildSlice (m := 0) (T := tInt) (L := []) (vs := []) rfl rfl rfl rfl Try.underlying23 sz3 (by decide) ze3 rfl (by decide) rfl (fun S6_3 a6_3 => ?_)
            refine o_nil ?_
            refine h_next (fun _ hw => HeapIs.drop hw (List.Sublist.cons _ (List.Sublist.cons_cons _ (List.Sublist.slnil)))) ?_
            refine h_two (i := 5) (j := 10) (ls := #[true, true, true, true, true, true, true, true, true, true, false, false, true, false, false, false]) (ls' := #[true, true, true, true, true, false, true, true, true, true, true, false, true, false, false, false]) (by kernel_rfl) rfl rfl rfl rfl ?_ ?_
            · refine o_append (i := 0) (L := []) (M := in_) (T := tInt) rfl rfl rfl (rd_base (i := 1) rfl hin_) Try.underlying23 Try.underlying23 (by intro k h; cases h) el3 (by intro z; simp [tInt, one1]) (by decide) (by first | omega | (simp only [List.length_cons, List.length_nil]; omega) | (simp only [List.length_append, List.length_cons, List.length_nil, List.length_take, List.length_drop]; omega)) rfl (fun a6_5 c6_5 S6_5 => ?_)
              refine o_nil ?_
              refine h_next (fun _ hw => HeapIs.drop hw (List.Sublist.cons _ (List.Sublist.cons_cons _ (List.Sublist.slnil)))) ?_
              refine h_one (i := 10) (ls := #[true, true, true, true, true, true, true, true, true, true, true, false, true, false, false, false]) (by kernel_rfl) rfl rfl ?_
              refine o_buildSlice (m := 1) (T := tInt) (L := [(l.getD a2.toNat default)]) (vs := [.int .i64 (l.getD a2.toNat default)]) rfl rfl rfl rfl Try.underlying23 sz3 (by decide) ze3 rfl (by decide) rfl (fun S6_10 a6_10 => ?_)
              refine o_nil ?_
              refine h_next (fun _ hw => HeapIs.drop hw (List.Sublist.cons _ (List.Sublist.cons _ (List.Sublist.cons_cons _ (List.Sublist.slnil))))) ?_
              refine h_one (i := 11) (ls := #[true, true, true, true, true, true, true, true, true, true, true, true, true, false, false, false]) (by kernel_rfl) rfl rfl ?_
              refine o_append (i := 1) (L := in_) (M := [(l.getD a2.toNat default)]) (T := tInt) rfl rfl rfl (rd_own (i := 0) rfl) Try.underlying23 Try.underlying23 (by intro k h; cases h) el3 (by intro z; simp [tInt, one1]) (by decide) (by first | omega | (simp only [List.length_cons, List.length_nil]; omega) | (simp only [List.length_append, List.length_cons, List.length_nil, List.length_take, List.length_drop]; omega)) rfl (fun a6_11 c6_11 S6_11 => ?_)
              refine o_nil ?_
              refine h_next (fun _ hw => HeapIs.drop hw (List.Sublist.cons _ (List.Sublist.cons _ (List.Sublist.cons_cons _ (List.Sublist.slnil))))) ?_
              refine h_one (i := 13) (ls := #[true, true, true, true, true, true, true, true, true, true, true, true, true, true, false, false]) (by kernel_rfl) rfl rfl ?_
              refine o_call0 (v := .int .i64 (Opt.few room ((l.length : Int) + 1) (in_ ++ [(l.getD a2.toNat default)]) (l.drop (a2 + 1).toNat))) rfl (IH l al cl (a2 + 1) (in_ ++ [(l.getD a2.toNat default)]) a6_11 c6_11 room (by (try simp only [List.length_append, List.length_cons, List.length_nil, List.length_set]); omega) (by omega)) hf74 (fun w hw => ⟨(rd_base (i := 2) rfl hl) w hw, (rd_own (i := 1) rfl) w hw⟩) rfl ?_
              refine o_nil ?_
              refine h_next (fun _ hw => HeapIs.drop hw (List.Sublist.cons _ (List.Sublist.cons _ (List.Sublist.cons_cons _ (List.Sublist.slnil))))) ?_
              refine h_take (i := 14) (ls := #[true, true, true, true, true, true, true, true, true, true, true, true, true, true, true, false]) rfl (by kernel_rfl) (by kernel_rfl) (by kernel_rfl) (fun _ _ _ h => h) (p_addb (p := 1) (q := (Opt.few room ((l.length : Int) + 1) (in_ ++ [(l.getD a2.toNat default)]) (l.drop (a2 + 1).toNat))) rfl rfl (by first | omega | (have hq := @Opt.few_bd room ((l.length : Int) + 1) (by omega); have hq2 := hq (t := l.drop (a2 + 1).toNat) (C := in_ ++ [(l.getD a2.toNat default)]); simp only [List.length_drop] at hq2; omega) | (have hq := @Opt.few_bd room ((l.length : Int) + 1) (by omega); have hq2 := hq (t := l.drop (a2 + 1).toNat) (C := in_.set k2 (l.getD a2.toNat default)); simp only [List.length_drop] at hq2; omega))) rfl rfl rfl (fun _ hw => HeapIs.drop hw (List.Sublist.cons _ (List.Sublist.cons _ (List.Sublist.cons_cons _ (List.Sublist.slnil))))) rfl ?_
              refine h_take (i := 15) (ls := #[true, true, true, true, true, true, true, true, true, true, true, true, true, true, true, true]) rfl (by kernel_rfl) (by kernel_rfl) (by kernel_rfl) (fun _ _ _ h => h) (p_assign (v := .int .i64 (1 + (Opt.few room ((l.length : Int) + 1) (in_ ++ [(l.getD a2.toNat default)]) (l.drop (a2 + 1).toNat)))) rfl) rfl rfl rfl (fun _ hw => HeapIs.drop hw (List.Sublist.cons _ (List.Sublist.cons _ (List.Sublist.cons_cons _ (List.Sublist.slnil))))) rfl ?_
              refine h_done (by kernel_rfl) ?_
              refine q_kont hK7 (S6_10, a6_10, a6_11, c6_11, S6_11) (Sub.cons rfl (Sub.nil _)) (fun _ hw => HeapIs.pick hw [0, 1, 2] (by decide) rfl)
            · refine o_buildSlice (m := 1) (T := tInt) (L := [(l.getD a2.toNat default)]) (vs := [.int .i64 (l.getD a2.toNat default)]) rfl rfl rfl rfl Try.underlying23 sz3 (by decide) ze3 rfl (by decide) rfl (fun S6_10 a6_10 => ?_)
              refine o_nil ?_
              refine h_next (fun _ hw => HeapIs.drop hw (List.Sublist.cons _ (List.Sublist.cons _ (List.Sublist.cons_cons _ (List.Sublist.slnil))))) ?_
              refine h_one (i := 5) (ls := #[true, true, true, true, true, true, true, true, true, true, true, false, true, false, false, false]) (by kernel_rfl) rfl rfl ?_
              refine o_append (i := 1) (L := []) (M := in_) (T := tInt) rfl rfl rfl (rd_base (i := 2) rfl hin_) Try.underlying23 Try.underlying23 (by intro k h; cases h) el3 (by intro z; simp [tInt, one1]) (by decide) (by first | omega | (simp only [List.length_cons, List.length_nil]; omega) | (simp only [List.length_append, List.length_cons, List.length_nil, List.length_take, List.length_drop]; omega)) rfl (fun a6_5 c6_5 S6_5 => ?_)
              refine o_nil ?_
              refine h_next (fun _ hw => HeapIs.drop hw (List.Sublist.cons _ (List.Sublist.cons _ (List.Sublist.cons_cons _ (List.Sublist.slnil))))) ?_
              refine h_one (i := 11) (ls := #[true, true, true, true, true, true, true, true, true, true, true, true, true, false, false, false]) (by kernel_rfl) rfl rfl ?_
              refine o_append (i := 1) (L := in_) (M := [(l.getD a2.toNat default)]) (T := tInt) rfl rfl rfl (rd_own (i := 0) rfl) Try.underlying23 Try.underlying23 (by intro k h; cases h) el3 (by intro z; simp [tInt, one1]) (by decide) (by first | omega | (simp only [List.length_cons, List.length_nil]; omega) | (simp only [List.length_append, List.length_cons, List.length_nil, List.length_take, List.length_drop]; omega)) rfl (fun a6_11 c6_11 S6_11 => ?_)
              refine o_nil ?_
              refine h_next (fun _ hw => HeapIs.drop hw (List.Sublist.cons _ (List.Sublist.cons _ (List.Sublist.cons_cons _ (List.Sublist.slnil))))) ?_
              refine h_one (i := 13) (ls := #[true, true, true, true, true, true, true, true, true, true, true, true, true, true, false, false]) (by kernel_rfl) rfl rfl ?_
              refine o_call0 (v := .int .i64 (Opt.few room ((l.length : Int) + 1) (in_ ++ [(l.getD a2.toNat default)]) (l.drop (a2 + 1).toNat))) rfl (IH l al cl (a2 + 1) (in_ ++ [(l.getD a2.toNat default)]) a6_11 c6_11 room (by (try simp only [List.length_append, List.length_cons, List.length_nil, List.length_set]); omega) (by omega)) hf74 (fun w hw => ⟨(rd_base (i := 2) rfl hl) w hw, (rd_own (i := 1) rfl) w hw⟩) rfl ?_
              refine o_nil ?_
              refine h_next (fun _ hw => HeapIs.drop hw (List.Sublist.cons _ (List.Sublist.cons _ (List.Sublist.cons_cons _ (List.Sublist.slnil))))) ?_
              refine h_take (i := 14) (ls := #[true, true, true, true, true, true, true, true, true, true, true, true, true, true, true, false]) rfl (by kernel_rfl) (by kernel_rfl) (by kernel_rfl) (fun _ _ _ h => h) (p_addb (p := 1) (q := (Opt.few room ((l.length : Int) + 1) (in_ ++ [(l.getD a2.toNat default)]) (l.drop (a2 + 1).toNat))) rfl rfl (by first | omega | (have hq := @Opt.few_bd room ((l.length : Int) + 1) (by omega); have hq2 := hq (t := l.drop (a2 + 1).toNat) (C := in_ ++ [(l.getD a2.toNat default)]); simp only [List.length_drop] at hq2; omega) | (have hq := @Opt.few_bd room ((l.length : Int) + 1) (by omega); have hq2 := hq (t := l.drop (a2 + 1).toNat) (C := in_.set k2 (l.getD a2.toNat default)); simp only [List.length_drop] at hq2; omega))) rfl rfl rfl (fun _ hw => HeapIs.drop hw (List.Sublist.cons _ (List.Sublist.cons _ (List.Sublist.cons_cons _ (List.Sublist.slnil))))) rfl ?_
              refine h_take (i := 15) (ls := #[true, true, true, true, true, true, true, true, true, true, true, true, true, true, true, true]) rfl (by kernel_rfl) (by kernel_rfl) (by kernel_rfl) (fun _ _ _ h => h) (p_assign (v := .int .i64 (1 + (Opt.few room ((l.length : Int) + 1) (in_ ++ [(l.getD a2.toNat default)]) (l.drop (a2 + 1).toNat)))) rfl) rfl rfl rfl (fun _ hw => HeapIs.drop hw (List.Sublist.cons _ (List.Sublist.cons _ (List.Sublist.cons_cons _ (List.Sublist.slnil))))) rfl ?_
              refine h_done (by kernel_rfl) ?_
              refine q_kont hK7 (S6_10, a6_10, a6_11, c6_11, S6_11) (Sub.cons rfl (Sub.nil _)) (fun _ hw => HeapIs.pick hw [0, 1, 2] (by decide) rfl)
          · refine o_buildSlice (m := 1) (T := tInt) (L := [(l.getD a2.toNat default)]) (vs := [.int .i64 (l.getD a2.toNat default)]) rfl rfl rfl rfl Try.underlying23 sz3 (by decide) ze3 rfl (by decide) rfl (fun S6_10 a6_10 => ?_)
            refine o_nil ?_
            refine h_next (fun _ hw => HeapIs.drop hw (List.Sublist.cons _ (List.Sublist.cons_cons _ (List.Sublist.slnil)))) ?_
            refine h_one (i := 3) (ls := #[true, true, true, true, true, false, true, true, true, true, true, false, true, false, false, false]) (by kernel_rfl) rfl rfl ?_
            refine o_buildSlice (m := 0) (T := tInt) (L := []) (vs := []) rfl rfl rfl rfl Try.underlying23 sz3 (by decide) ze3 rfl (by decide) rfl (fun S6_3 a6_3 => ?_)
            refine o_nil ?_
            refine h_next (fun _ hw => HeapIs.drop hw (List.Sublist.cons _ (List.Sublist.cons _ (List.Sublist.cons_cons _ (List.Sublist.slnil))))) ?_
            refine h_one (i := 5) (ls := #[true, true, true, true, true, true, true, true, true, true, true, false, true, false, false, false]) (by kernel_rfl) rfl rfl ?_
            refine o_append (i := 0) (L := []) (M := in_) (T := tInt) rfl rfl rfl (rd_base (i := 2) rfl hin_) Try.underlying23 Try.underlying23 (by intro k h; cases h) el3 (by intro z; simp [tInt, one1]) (by decide) (by first | omega | (simp only [List.length_cons, List.length_nil]; omega) | (simp only [List.length_append, List.length_cons, List.length_nil, List.length_take, List.length_drop]; omega)) rfl (fun a6_5 c6_5 S6_5 => ?_)
            refine o_nil ?_
            refine h_next (fun _ hw => HeapIs.drop hw (List.Sublist.cons _ (List.Sublist.cons _ (List.Sublist.cons_cons _ (List.Sublist.slnil))))) ?_
            refine h_one (i := 11) (ls := #[true, true, true, true, true, true, true, true, true, true, true, true, true, false, false, false]) (by kernel_rfl) rfl rfl ?_
            refine o_append (i := 0) (L := in_) (M := [(l.getD a2.toNat default)]) (T := tInt) rfl rfl rfl (rd_own (i := 1) rfl) Try.underlying23 Try.underlying23 (by intro k h; cases h) el3 (by intro z; simp [tInt, one1]) (by decide) (by first | omega | (simp only [List.length_cons, List.length_nil]; omega) | (simp only [List.length_append, List.length_cons, List.length_nil, List.length_take, List.length_drop]; omega)) rfl (fun a6_11 c6_11 S6_11 => ?_)
            refine o_nil ?_
            refine h_next (fun _ hw => HeapIs.drop hw (List.Sublist.cons _ (List.Sublist.cons _ (List.Sublist.cons_cons _ (List.Sublist.slnil))))) ?_
            refine h_one (i := 13) (ls := #[true, true, true, true, true, true, true, true, true, true, true, true, true, true, false, false]) (by kernel_rfl) rfl rfl ?_
            refine o_call0 (v := .int .i64 (Opt.few room ((l.length : Int) + 1) (in_ ++ [(l.getD a2.toNat default)]) (l.drop (a2 + 1).toNat))) rfl (IH l al cl (a2 + 1) (in_ ++ [(l.getD a2.toNat default)]) a6_11 c6_11 room (by (try simp only [List.length_append, List.length_cons, List.length_nil, List.length_set]); omega) (by omega)) hf74 (fun w hw => ⟨(rd_base (i := 2) rfl hl) w hw, (rd_own (i := 0) rfl) w hw⟩) rfl ?_
            refine o_nil ?_
            refine h_next (fun _ hw => HeapIs.drop hw (List.Sublist.cons _ (List.Sublist.cons _ (List.Sublist.cons_cons _ (List.Sublist.slnil))))) ?_
            refine h_take (i := 14) (ls := #[true, true, true, true, true, true, true, true, true, true, true, true, true, true, true, false]) rfl (by kernel_rfl) (by kernel_rfl) (by kernel_rfl) (fun _ _ _ h => h) (p_addb (p := 1) (q := (Opt.few room ((l.length : Int) + 1) (in_ ++ [(l.getD a2.toNat default)]) (l.drop (a2 + 1).toNat))) rfl rfl (by first | omega | (have hq := @Opt.few_bd room ((l.length : Int) + 1) (by omega); have hq2 := hq (t := l.drop (a2 + 1).toNat) (C := in_ ++ [(l.getD a2.toNat default)]); simp only [List.length_drop] at hq2; omega) | (have hq := @Opt.few_bd room ((l.length : Int) + 1) (by omega); have hq2 := hq (t := l.drop (a2 + 1).toNat) (C := in_.set k2 (l.getD a2.toNat default)); simp only [List.length_drop] at hq2; omega))) rfl rfl rfl (fun _ hw => HeapIs.drop hw (List.Sublist.cons _ (List.Sublist.cons _ (List.Sublist.cons_cons _ (List.Sublist.slnil))))) rfl ?_
            refine h_take (i := 15) (ls := #[true, true, true, true, true, true, true, true, true, true, true, true, true, true, true, true]) rfl (by kernel_rfl) (by kernel_rfl) (by kernel_rfl) (fun _ _ _ h => h) (p_assign (v := .int .i64 (1 + (Opt.few room ((l.length : Int) + 1) (in_ ++ [(l.getD a2.toNat default)]) (l.drop (a2 + 1).toNat)))) rfl) rfl rfl rfl (fun _ hw => HeapIs.drop hw (List.Sublist.cons _ (List.Sublist.cons _ (List.Sublist.cons_cons _ (List.Sublist.slnil))))) rfl ?_
            refine h_done (by kernel_rfl) ?_
            refine q_kont hK7 (S6_10, a6_10, a6_11, c6_11, S6_11) (Sub.cons rfl (Sub.nil _)) (fun _ hw => HeapIs.pick hw [1, 0, 2] (by decide) rfl)
        rintro ⟨S6_10, a6_10, a6_11, c6_11, S6_11⟩
        show SQ _ 81 w0 _ _ [(8, .int .i64 (1 + (Opt.few room ((l.length : Int) + 1) (in_ ++ [(l.getD a2.toNat default)]) (l.drop (a2 + 1).toNat))))] [own tInt S6_10 a6_10 ([(l.getD a2.toNat default)].length) ([(l.getD a2.toNat default)]), own tInt S6_11 a6_11 c6_11 (in_ ++ [(l.getD a2.toNat default)]), base w0]
        refine q_then ?_
        refine c_ret ?_
        refine q_then_ret ?_
        have hr0 : ((1 + (Opt.few room ((l.length : Int) + 1) (in_ ++ [(l.getD a2.toNat default)]) (l.drop (a2 + 1).toNat))) : Int) = (Opt.few room ((l.length : Int) + 1) in_ (l.drop at_.toNat)) := by
          first | exact hWI.end_ (by assumption) | (rw [hsp, if_pos (by assumption)]; done) | (rw [hsp, if_neg (by omega)]; exact hI.2.trans (by rw [show k2 = in_.length by omega]))
        refine q_end0 (v := .int .i64 (1 + (Opt.few room ((l.length : Int) + 1) (in_ ++ [(l.getD a2.toNat default)]) (l.drop (a2 + 1).toNat)))) (rt1 rfl (r_tmp rfl)) (i := 2) rfl ?_
        exact (by have hcc := congrArg (fun (y0 : Int) => (.int .i64 y0 : Value)) hr0; exact hcc)
      · simp only [decide_eq_false_iff_not, Int.not_lt] at hc5
        refine c_skip ?_
        refine q_then ?_
        refine c_seq ?_
        refine c_region ?_
        refine o_pure (p_move (v := .slice al l.length cl) rfl) rfl rfl rfl ?_
        refine o_pure (p_len_slice (len := l.length) rfl rfl Try.underlying23) rfl rfl rfl ?_
        refine o_pure (p_addb (p := (l.length : Int)) (q := 1) rfl rfl (by first | omega | (have hq := @Opt.few_bd room ((l.length : Int) + 1) (by omega); have hq2 := hq (t := l.drop (a2 + 1).toNat) (C := in_ ++ [(l.getD a2.toNat default)]); simp only [List.length_drop] at hq2; omega) | (have hq := @Opt.few_bd room ((l.length : Int) + 1) (by omega); have hq2 := hq (t := l.drop (a2 + 1).toNat) (C := in_.set k2 (l.getD a2.toNat default)); simp only [List.length_drop] at hq2; omega))) rfl rfl rfl ?_
        refine o_pure (p_assign (v := .int .i64 ((l.length : Int) + 1)) rfl) rfl rfl rfl ?_
        refine o_nil ?_
        refine q_then ?_
        refine c_seq ?_
        refine c_seq ?_
        refine c_region ?_
        refine o_pure (p_assign (v := .int .i64 0) rfl) rfl rfl rfl ?_
        refine o_nil ?_
        refine q_then ?_
        refine c_block ?_
        refine c_loop (St := Int × Nat)
          (fun ⟨best, k2⟩ => [(0, .slice al l.length cl), (1, .int .i64 a2), (2, .slice ain_ in_.length cin_), (3, .int .i64 room), (9, .int .i64 best), (10, .int .i64 (k2 : Int))])
          (fun ⟨best, k2⟩ => [base w0])
          (fun ⟨best, k2⟩ => k2 ≤ in_.length ∧ best = Opt.fold (fun j => 1 + Opt.few room ((l.length : Int) + 1) (in_.set j (l.getD a2.toNat default)) (l.drop (a2 + 1).toNat)) ((l.length : Int) + 1) k2)
          (fun ⟨best, k2⟩ => in_.length - k2)
          (((l.length : Int) + 1), 0) ?_ (Sub.cons rfl (Sub.cons rfl (Sub.cons rfl (Sub.cons rfl (Sub.cons rfl (Sub.cons rfl (Sub.nil _))))))) (fun _ hw => hw) ?_
        · exact ⟨Nat.zero_le _, rfl⟩
        rintro ⟨best, k2⟩ hI K hK8
        have hfb : best ≤ (l.length : Int) + 1 ∧ 0 ≤ best := by rw [hI.2]; exact Opt.fold_bd (by omega) k2
        show SC _ _ Try.prog 81 w0 _ _ [(0, .slice al l.length cl), (1, .int .i64 a2), (2, .slice ain_ in_.length cin_), (3, .int .i64 room), (9, .int .i64 best), (10, .int .i64 (k2 : Int))] [base w0]
        refine c_seq ?_
        refine c_seq ?_
        refine c_region ?_
        refine o_pure (p_move (v := .int .i64 (k2 : Int)) rfl) rfl rfl rfl ?_
        refine o_pure (p_move (v := .slice ain_ in_.length cin_) rfl) rfl rfl rfl ?_
        refine o_pure (p_len_slice (len := in_.length) rfl rfl Try.underlying23) rfl rfl rfl ?_
        refine o_pure (p_lt (p := (k2 : Int)) (q := (in_.length : Int)) rfl rfl) rfl rfl rfl ?_
        refine o_nil ?_
        refine q_then ?_
        refine c_cond (b := decide ((k2 : Int) < (in_.length : Int))) rfl (fun hc9 => ?_) (fun hc9 => ?_)
        · simp only [decide_eq_true_eq] at hc9
          refine c_skip ?_
          refine q_then ?_
          refine c_seq ?_
          refine c_block ?_
          refine c_seq ?_
          refine c_region ?_
          refine o_buildSlice (m := 0) (T := tInt) (L := []) (vs := []) rfl rfl rfl rfl Try.underlying23 sz3 (by decide) ze3 rfl (by decide) rfl (fun S10 a11 => ?_)
          refine o_pure (p_move (v := .slice ain_ in_.length cin_) rfl) rfl rfl rfl ?_
          refine o_append (i := 0) (L := []) (M := in_) (T := tInt) rfl rfl rfl (rd_base (i := 1) rfl hin_) Try.underlying23 Try.underlying23 (by intro k h; cases h) el3 (by intro z; simp [tInt, one1]) (by decide) (by first | omega | (simp only [List.length_cons, List.length_nil]; omega) | (simp only [List.length_append, List.length_cons, List.length_nil, List.length_take, List.length_drop]; omega)) rfl (fun a13 c14 S15 => ?_)
          refine o_pure (p_assign (v := .slice a13 in_.length c14) rfl) rfl rfl rfl ?_
          refine o_nil ?_
          refine q_then ?_
          refine c_seq ?_
          refine c_region ?_
          refine o_pure (p_move (v := .slice a13 in_.length c14) rfl) rfl rfl rfl ?_
          refine o_pure (p_move (v := .int .i64 (k2 : Int)) rfl) rfl rfl rfl ?_
          refine o_pure (p_move (v := .slice al l.length cl) rfl) rfl rfl rfl ?_
          refine o_pure (p_move (v := .int .i64 a2) rfl) rfl rfl rfl ?_
          refine o_pure (p_indexAddr (L := l) (T := tInt) (i := a2) rfl rfl (rd_base (i := 1) rfl hl) Try.underlying23 sz3 (by omega) (by omega)) rfl rfl rfl ?_
          refine o_pure (p_loadE1 (i := a2.toNat) (T := tInt) (L := l) (v := .int .i64 (l.getD a2.toNat default)) rfl (rd_base (i := 1) rfl hl) (by first | assumption | omega) sh3 (congrArg tInt.enc (getd_at (by first | assumption | omega) default))) rfl rfl rfl ?_
          refine o_pure (p_indexAddr (L := in_) (T := tInt) (i := (k2 : Int)) rfl rfl (rd_own (i := 0) rfl) Try.underlying23 sz3 (by omega) (by omega)) rfl rfl rfl ?_
          refine o_storeW (i := 0) (T := tInt) (L := in_) (idx := k2) (v := .int .i64 (l.getD a2.toNat default)) (vs := [.int .i64 (l.getD a2.toNat default)]) (z := (l.getD a2.toNat default)) (F' := [(0, .slice al l.length cl), (1, .int .i64 a2), (2, .slice ain_ in_.length cin_), (3, .int .i64 room), (9, .int .i64 best), (10, .int .i64 (k2 : Int)), (11, .slice a13 (in_.set k2 (l.getD a2.toNat default)).length c14)]) rfl rfl rfl rfl (by first | assumption | omega | (simp only [List.length_set]; omega)) sz3 rfl rfl rfl rfl (Sub.cons rfl (Sub.cons rfl (Sub.cons rfl (Sub.cons rfl (Sub.cons rfl (Sub.cons rfl (Sub.cons (by first | (simp only [List.length_set]; rfl) | (show some _ = some _; congr 2; rw [List.length_set]) | (rw [List.length_set]; rfl)) (Sub.nil _)))))))) ?_
          refine o_nil ?_
          refine q_then ?_
          refine c_seq ?_
          refine c_region ?_
          refine o_pure (p_move (v := .slice al l.length cl) rfl) rfl rfl rfl ?_
          refine o_pure (p_move (v := .int .i64 a2) rfl) rfl rfl rfl ?_
          refine o_pure (p_addb (p := a2) (q := 1) rfl rfl (by first | omega | (have hq := @Opt.few_bd room ((l.length : Int) + 1) (by omega); have hq2 := hq (t := l.drop (a2 + 1).toNat) (C := in_ ++ [(l.getD a2.toNat default)]); simp only [List.length_drop] at hq2; omega) | (have hq := @Opt.few_bd room ((l.length : Int) + 1) (by omega); have hq2 := hq (t := l.drop (a2 + 1).toNat) (C := in_.set k2 (l.getD a2.toNat default)); simp only [List.length_drop] at hq2; omega))) rfl rfl rfl ?_
          refine o_pure (p_move (v := .slice a13 (in_.set k2 (l.getD a2.toNat default)).length c14) rfl) rfl rfl rfl ?_
          refine o_pure (p_move (v := .int .i64 room) rfl) rfl rfl rfl ?_
          refine o_call0 (v := .int .i64 (Opt.few room ((l.length : Int) + 1) (in_.set k2 (l.getD a2.toNat default)) (l.drop (a2 + 1).toNat))) rfl (IH l al cl (a2 + 1) (in_.set k2 (l.getD a2.toNat default)) a13 c14 room (by (try simp only [List.length_append, List.length_cons, List.length_nil, List.length_set]); omega) (by omega)) hf74 (fun w hw => ⟨(rd_base (i := 1) rfl hl) w hw, (rd_own (i := 0) rfl) w hw⟩) rfl ?_
          refine o_pure (p_addb (p := 1) (q := (Opt.few room ((l.length : Int) + 1) (in_.set k2 (l.getD a2.toNat default)) (l.drop (a2 + 1).toNat))) rfl rfl (by first | omega | (have hq := @Opt.few_bd room ((l.length : Int) + 1) (by omega); have hq2 := hq (t := l.drop (a2 + 1).toNat) (C := in_ ++ [(l.getD a2.toNat default)]); simp only [List.length_drop] at hq2; omega) | (have hq := @Opt.few_bd room ((l.length : Int) + 1) (by omega); have hq2 := hq (t := l.drop (a2 + 1).toNat) (C := in_.set k2 (l.getD a2.toNat default)); simp only [List.length_drop] at hq2; omega))) rfl rfl rfl ?_
          refine o_pure (p_assign (v := .int .i64 (1 + (Opt.few room ((l.length : Int) + 1) (in_.set k2 (l.getD a2.toNat default)) (l.drop (a2 + 1).toNat)))) rfl) rfl rfl rfl ?_
          refine o_nil ?_
          refine q_then ?_
          refine c_seq ?_
          refine c_region ?_
          refine o_pure (p_move (v := .int .i64 (1 + (Opt.few room ((l.length : Int) + 1) (in_.set k2 (l.getD a2.toNat default)) (l.drop (a2 + 1).toNat)))) rfl) rfl rfl rfl ?_
          refine o_pure (p_move (v := .int .i64 best) rfl) rfl rfl rfl ?_
          refine o_pure (p_lt (p := (1 + (Opt.few room ((l.length : Int) + 1) (in_.set k2 (l.getD a2.toNat default)) (l.drop (a2 + 1).toNat)))) (q := best) rfl rfl) rfl rfl rfl ?_
          refine o_nil ?_
          refine q_then ?_
          refine c_cond (b := decide ((1 + (Opt.few room ((l.length : Int) + 1) (in_.set k2 (l.getD a2.toNat default)) (l.drop (a2 + 1).toNat))) < best)) rfl (fun hc16 => ?_) (fun hc16 => ?_)
          · simp only [decide_eq_true_eq] at hc16
            refine c_region ?_
            refine o_pure (p_move (v := .int .i64 (1 + (Opt.few room ((l.length : Int) + 1) (in_.set k2 (l.getD a2.toNat default)) (l.drop (a2 + 1).toNat)))) rfl) rfl rfl rfl ?_
            refine o_pure (p_assign (v := .int .i64 (1 + (Opt.few room ((l.length : Int) + 1) (in_.set k2 (l.getD a2.toNat default)) (l.drop (a2 + 1).toNat)))) rfl) rfl rfl rfl ?_
            refine o_nil ?_
            refine q_block_normal (q_then ?_)
            refine c_region ?_
            refine o_pure (p_move (v := .int .i64 (k2 : Int)) rfl) rfl rfl rfl ?_
            refine o_pure (p_addb (p := (k2 : Int)) (q := 1) rfl rfl (by first | omega | (have hq := @Opt.few_bd room ((l.length : Int) + 1) (by omega); have hq2 := hq (t := l.drop (a2 + 1).toNat) (C := in_ ++ [(l.getD a2.toNat default)]); simp only [List.length_drop] at hq2; omega) | (have hq := @Opt.few_bd room ((l.length : Int) + 1) (by omega); have hq2 := hq (t := l.drop (a2 + 1).toNat) (C := in_.set k2 (l.getD a2.toNat default)); simp only [List.length_drop] at hq2; omega))) rfl rfl rfl ?_
            refine o_pure (p_assign (v := .int .i64 ((k2 : Int) + 1)) rfl) rfl rfl rfl ?_
            refine o_nil ?_
            refine q_round hK8 ((1 + (Opt.few room ((l.length : Int) + 1) (in_.set k2 (l.getD a2.toNat default)) (l.drop (a2 + 1).toNat))), k2 + 1) ?_ ?_ ?_ ?_
            · clear hK8
              first | exact ⟨by omega, by rw [Opt.fold_next, ← hI.2, if_pos (by assumption)]⟩ | exact ⟨by omega, by rw [Opt.fold_next, ← hI.2, if_neg (by omega)]⟩
            · (try dsimp only); omega
            · exact Sub.cons rfl (Sub.cons rfl (Sub.cons rfl (Sub.cons rfl (Sub.cons rfl (Sub.cons rfl (Sub.nil _))))))
            · exact fun _ hw => HeapIs.pick hw [1] (by decide) rfl
          · simp only [decide_eq_false_iff_not, Int.not_lt] at hc16
            refine c_skip ?_
            refine q_block_normal (q_then ?_)
            refine c_region ?_
            refine o_pure (p_move (v := .int .i64 (k2 : Int)) rfl) rfl rfl rfl ?_
            refine o_pure (p_addb (p := (k2 : Int)) (q := 1) rfl rfl (by first | omega | (have hq := @Opt.few_bd room ((l.length : Int) + 1) (by omega); have hq2 := hq (t := l.drop (a2 + 1).toNat) (C := in_ ++ [(l.getD a2.toNat default)]); simp only [List.length_drop] at hq2; omega) | (have hq := @Opt.few_bd room ((l.length : Int) + 1) (by omega); have hq2 := hq (t := l.drop (a2 + 1).toNat) (C := in_.set k2 (l.getD a2.toNat default)); simp only [List.length_drop] at hq2; omega))) rfl rfl rfl ?_
            refine o_pure (p_assign (v := .int .i64 ((k2 : Int) + 1)) rfl) rfl rfl rfl ?_
            refine o_nil ?_
            refine q_round hK8 (best, k2 + 1) ?_ ?_ ?_ ?_
            · clear hK8
              first | exact ⟨by omega, by rw [Opt.fold_next, ← hI.2, if_pos (by assumption)]⟩ | exact ⟨by omega, by rw [Opt.fold_next, ← hI.2, if_neg (by omega)]⟩
            · (try dsimp only); omega
            · exact Sub.cons rfl (Sub.cons rfl (Sub.cons rfl (Sub.cons rfl (Sub.cons rfl (Sub.cons rfl (Sub.nil _))))))
            · exact fun _ hw => HeapIs.pick hw [1] (by decide) rfl
        · simp only [decide_eq_false_iff_not, Int.not_lt] at hc9
          refine c_exit ?_
          refine q_then_exit (q_then_exit (q_block_exit (q_then ?_)))
          refine c_seq ?_
          refine c_region ?_
          refine o_pure (p_move (v := .int .i64 best) rfl) rfl rfl rfl ?_
          refine o_pure (p_assign (v := .int .i64 best) rfl) rfl rfl rfl ?_
          refine o_nil ?_
          refine q_then ?_
          refine c_ret ?_
          have hr0 : (best : Int) = (Opt.few room ((l.length : Int) + 1) in_ (l.drop at_.toNat)) := by
            first | exact hWI.end_ (by assumption) | (rw [hsp, if_pos (by assumption)]; done) | (rw [hsp, if_neg (by omega)]; exact hI.2.trans (by rw [show k2 = in_.length by omega]))
          refine q_end0 (v := .int .i64 best) (rt1 rfl (r_tmp rfl)) (i := 0) rfl ?_
          exact (by have hcc := congrArg (fun (y0 : Int) => (.int .i64 y0 : Value)) hr0; exact hcc)
theorem rfewest_ok (l : List Int) (al : Option Addr) (cl : Nat) (at_ : Int) (in_ : List Int) (ain_ : Option Addr) (cin_ : Nat) (room : Int) (hy1 : 0 ≤ at_ ∧ at_ ≤ (l.length : Int) ∧ l.length ≤ 9 ∧ (in_.length : Int) ≤ at_) : Fn0 Try.prog 74 [.slice al l.length cl, .int .i64 at_, .slice ain_ in_.length cin_, .int .i64 room] (fun w => Rd tInt w al cl l ∧ Rd tInt w ain_ cin_ in_) (.int .i64 (Opt.few room ((l.length : Int) + 1) in_ (l.drop at_.toNat))) := by
  have key : ∀ (nr : Nat) (l : List Int) (al : Option Addr) (cl : Nat) (at_ : Int) (in_ : List Int) (ain_ : Option Addr) (cin_ : Nat) (room : Int) (hy1 : 0 ≤ at_ ∧ at_ ≤ (l.length : Int) ∧ l.length ≤ 9 ∧ (in_.length : Int) ≤ at_), l.length - at_.toNat = nr → Fn0 Try.prog 74 [.slice al l.length cl, .int .i64 at_, .slice ain_ in_.length cin_, .int .i64 room] (fun w => Rd tInt w al cl l ∧ Rd tInt w ain_ cin_ in_) (.int .i64 (Opt.few room ((l.length : Int) + 1) in_ (l.drop at_.toNat))) := fun nr => Nat.strongRecOn nr (fun nr ihr => fun l al cl at_ in_ ain_ cin_ room hy1 hnr => rfewest_step nr (fun l al cl at_ in_ ain_ cin_ room hy1 hmr => ihr _ hmr l al cl at_ in_ ain_ cin_ room hy1 rfl) l al cl at_ in_ ain_ cin_ room hy1 hnr)
  exact key _ l al cl at_ in_ ain_ cin_ room hy1 rfl

set_option maxHeartbeats 8000000 in
set_option maxRecDepth 100000 in
theorem bestFewest_ok (l : List Int) (al : Option Addr) (cl : Nat) (room : Int) (hy1 : l.length ≤ 9) : Fn0 Try.prog 44 [.slice al l.length cl, .int .i64 room] (fun w => Rd tInt w al cl l) (.int .i64 (Opt.few room ((l.length : Int) + 1) [] l)) := by
  refine fn0 (nt := 8) (F0 := [(0, .slice al l.length cl), (1, .int .i64 room)]) Try.func44 rfl Try.ntmps44 rfl rfl (fun w0 hpre => ?_)
  have hl := hpre
  have hlhl := hl.2.1
  refine c_seq ?_
  refine c_region ?_
  refine o_pure (p_assign (v := .int .i64 0) rfl) rfl rfl rfl ?_
  refine o_nil ?_
  refine q_then ?_
  refine c_seq ?_
  refine c_region ?_
  refine o_pure (p_move (v := .slice al l.length cl) rfl) rfl rfl rfl ?_
  refine o_pure (p_move (v := .int .i64 room) rfl) rfl rfl rfl ?_
  refine o_call0 (v := .int .i64 (Opt.few room ((l.length : Int) + 1) [] (l.drop (0 : Int).toNat))) rfl (rfewest_ok l al cl (0 : Int) [] none 0 room (by (try simp only [List.length_append, List.length_cons, List.length_nil, List.length_set]); omega)) hf74 (fun w hw => ⟨(rd_base (i := 0) rfl hl) w hw, rd_nil w hw⟩) rfl ?_
  refine o_pure (p_assign (v := .int .i64 (Opt.few room ((l.length : Int) + 1) [] (l.drop (0 : Int).toNat))) rfl) rfl rfl rfl ?_
  refine o_nil ?_
  refine q_then ?_
  refine c_ret ?_
  have hr0 : ((Opt.few room ((l.length : Int) + 1) [] (l.drop (0 : Int).toNat)) : Int) = (Opt.few room ((l.length : Int) + 1) [] l) := by
    first | rfl | simp
  refine q_end0 (v := .int .i64 (Opt.few room ((l.length : Int) + 1) [] (l.drop (0 : Int).toNat))) (rt1 rfl (r_tmp rfl)) (i := 0) rfl ?_
  exact (by have hcc := congrArg (fun (y0 : Int) => (.int .i64 y0 : Value)) hr0; exact hcc)

set_option maxHeartbeats 8000000 in
set_option maxRecDepth 100000 in
theorem optimalFewest_ok (l : List Int) (al : Option Addr) (cl : Nat) (room : Int) : Fn0 Try.prog 12 [.slice al l.length cl, .int .i64 room] (fun w => Rd tInt w al cl l) (.bool true) := by
  refine fn0 (nt := 31) (F0 := [(0, .slice al l.length cl), (1, .int .i64 room)]) Try.func12 rfl Try.ntmps12 rfl rfl (fun w0 hpre => ?_)
  have hl := hpre
  have hlhl := hl.2.1
  refine c_seq ?_
  refine c_region ?_
  refine o_pure (p_assign (v := .bool false) rfl) rfl rfl rfl ?_
  refine o_nil ?_
  refine q_then ?_
  refine c_seq ?_
  refine c_region ?_
  refine o_pure (p_move (v := .slice al l.length cl) rfl) rfl rfl rfl ?_
  refine o_pure (p_move (v := .slice al l.length cl) rfl) rfl rfl rfl ?_
  refine o_pure (p_len_slice (len := l.length) rfl rfl Try.underlying23) rfl rfl rfl ?_
  refine o_pure (p_min (p := (l.length : Int)) (q := 9) rfl rfl) rfl rfl rfl ?_
  refine o_pure (p_sliceH (L := l) (T := tInt) (h := (min (l.length : Int) 9)) rfl rfl Try.underlying23 sz3 (by omega) (by omega) (rd_base (i := 0) rfl hl)) rfl rfl rfl ?_
  refine o_pure (p_assign (v := .slice al (l.take ((min (l.length : Int) 9).toNat)).length cl) rfl) rfl rfl rfl ?_
  refine o_nil ?_
  refine q_then ?_
  refine c_seq ?_
  refine c_region ?_
  refine o_pure (p_move (v := .slice al (l.take ((min (l.length : Int) 9).toNat)).length cl) rfl) rfl rfl rfl ?_
  refine o_pure (p_move (v := .int .i64 room) rfl) rfl rfl rfl ?_
  refine o_callM rfl (oevict_ok (l.take ((min (l.length : Int) 9).toNat)) al cl room) hf38 (fun w hw => (rd_takeC (hi := (min (l.length : Int) 9).toNat) (rd_base (i := 0) rfl hl) (by omega)) w hw) rfl (fun _ _ _ _ ha hA => SlO.agree ha hA) ?_
  rintro ⟨a3, c4⟩ S1
  refine o_know (fun w hw => own_len (i := 0) (T := tInt) hw rfl) (fun hlr5 => ?_)
  refine o_pure (p_move (v := .tuple #[.slice a3 ((Opt.ev (l.take ((min (l.length : Int) 9).toNat)) room).1).length c4, .int .i64 ((Opt.ev (l.take ((min (l.length : Int) 9).toNat)) room).2), .int .i64 (Opt.evErr (l.take ((min (l.length : Int) 9).toNat)) room)]) rfl) rfl rfl rfl ?_
  refine o_pure (p_extract (vs := [.slice a3 ((Opt.ev (l.take ((min (l.length : Int) 9).toNat)) room).1).length c4, .int .i64 ((Opt.ev (l.take ((min (l.length : Int) 9).toNat)) room).2), .int .i64 (Opt.evErr (l.take ((min (l.length : Int) 9).toNat)) room)]) (v := .slice a3 ((Opt.ev (l.take ((min (l.length : Int) 9).toNat)) room).1).length c4) rfl rfl) rfl rfl rfl ?_
  refine o_pure (p_extract (vs := [.slice a3 ((Opt.ev (l.take ((min (l.length : Int) 9).toNat)) room).1).length c4, .int .i64 ((Opt.ev (l.take ((min (l.length : Int) 9).toNat)) room).2), .int .i64 (Opt.evErr (l.take ((min (l.length : Int) 9).toNat)) room)]) (v := .int .i64 ((Opt.ev (l.take ((min (l.length : Int) 9).toNat)) room).2)) rfl rfl) rfl rfl rfl ?_
  refine o_pure (p_extract (vs := [.slice a3 ((Opt.ev (l.take ((min (l.length : Int) 9).toNat)) room).1).length c4, .int .i64 ((Opt.ev (l.take ((min (l.length : Int) 9).toNat)) room).2), .int .i64 (Opt.evErr (l.take ((min (l.length : Int) 9).toNat)) room)]) (v := .int .i64 (Opt.evErr (l.take ((min (l.length : Int) 9).toNat)) room)) rfl rfl) rfl rfl rfl ?_
  refine o_pure (p_assign (v := .slice a3 ((Opt.ev (l.take ((min (l.length : Int) 9).toNat)) room).1).length c4) rfl) rfl rfl rfl ?_
  refine o_pure (p_assign (v := .int .i64 ((Opt.ev (l.take ((min (l.length : Int) 9).toNat)) room).2)) rfl) rfl rfl rfl ?_
  refine o_pure (p_assign (v := .int .i64 (Opt.evErr (l.take ((min (l.length : Int) 9).toNat)) room)) rfl) rfl rfl rfl ?_
  refine o_nil ?_
  refine q_then ?_
  refine c_seq ?_
  refine c_seq ?_
  refine c_region ?_
  refine o_call0 (v := .bool true) rfl (bestBegun_ok ) hf43 (fun _ _ => trivial) rfl ?_
  refine o_pure (p_not (b := true) rfl) rfl rfl rfl ?_
  refine o_nil ?_
  refine q_then ?_
  refine c_false rfl ?_
  refine c_skip ?_
  refine q_then ?_
  refine c_seq ?_
  refine c_seq ?_
  refine c_region ?_
  refine o_pure (p_move (v := .int .i64 (Opt.evErr (l.take ((min (l.length : Int) 9).toNat)) room)) rfl) rfl rfl rfl ?_
  refine o_pure (p_ne (p := (Opt.evErr (l.take ((min (l.length : Int) 9).toNat)) room)) (q := 0) rfl rfl) rfl rfl rfl ?_
  refine o_nil ?_
  refine q_then ?_
  refine c_cond (b := ((Opt.evErr (l.take ((min (l.length : Int) 9).toNat)) room) != 0)) rfl (fun hc6 => ?_) (fun hc6 => ?_)
  · simp only [bne_iff_ne, ne_eq] at hc6
    have hz := Opt.ev_bad hc6
    refine c_seq ?_
    refine c_region ?_
    refine o_pure (p_move (v := .int .i64 ((Opt.ev (l.take ((min (l.length : Int) 9).toNat)) room).2)) rfl) rfl rfl rfl ?_
    refine o_pure (p_eq (p := ((Opt.ev (l.take ((min (l.length : Int) 9).toNat)) room).2)) (q := 0) rfl rfl) rfl rfl rfl ?_
    refine o_pure (p_assign (v := .bool (((Opt.ev (l.take ((min (l.length : Int) 9).toNat)) room).2) == 0)) rfl) rfl rfl rfl ?_
    refine o_nil ?_
    refine q_then ?_
    refine c_ret ?_
    refine q_then_ret ?_
    have hr0 : ((((Opt.ev (l.take ((min (l.length : Int) 9).toNat)) room).2) == 0) : Bool) = true := by
      first | rfl | (rw [hz]; rfl) | (rw [hz]; exact beq_self_eq_true _)
    refine q_end0 (v := .bool (((Opt.ev (l.take ((min (l.length : Int) 9).toNat)) room).2) == 0)) (rt1 rfl (r_tmp rfl)) (i := 1) rfl ?_
    exact (by have hcc := congrArg (fun (y0 : Bool) => (.bool y0 : Value)) hr0; exact hcc)
  · simp only [bne_eq_false_iff_eq] at hc6
    have hz := Opt.fewest_law hc6
    refine c_skip ?_
    refine q_then ?_
    refine c_seq ?_
    refine c_region ?_
    refine o_pure (p_move (v := .int .i64 ((Opt.ev (l.take ((min (l.length : Int) 9).toNat)) room).2)) rfl) rfl rfl rfl ?_
    refine o_pure (p_move (v := .slice al (l.take ((min (l.length : Int) 9).toNat)).length cl) rfl) rfl rfl rfl ?_
    refine o_pure (p_move (v := .int .i64 room) rfl) rfl rfl rfl ?_
    refine o_call0 (v := .int .i64 (Opt.few room (((l.take ((min (l.length : Int) 9).toNat)).length : Int) + 1) [] (l.take ((min (l.length : Int) 9).toNat)))) rfl (bestFewest_ok (l.take ((min (l.length : Int) 9).toNat)) al cl room (by first | omega | (simp only [List.length_take]; omega))) hf44 (fun w hw => (rd_takeC (hi := (min (l.length : Int) 9).toNat) (rd_base (i := 1) rfl hl) (by omega)) w hw) rfl ?_
    refine o_pure (p_eq (p := ((Opt.ev (l.take ((min (l.length : Int) 9).toNat)) room).2)) (q := (Opt.few room (((l.take ((min (l.length : Int) 9).toNat)).length : Int) + 1) [] (l.take ((min (l.length : Int) 9).toNat)))) rfl rfl) rfl rfl rfl ?_
    refine o_pure (p_assign (v := .bool (((Opt.ev (l.take ((min (l.length : Int) 9).toNat)) room).2) == (Opt.few room (((l.take ((min (l.length : Int) 9).toNat)).length : Int) + 1) [] (l.take ((min (l.length : Int) 9).toNat))))) rfl) rfl rfl rfl ?_
    refine o_nil ?_
    refine q_then ?_
    refine c_ret ?_
    have hr0 : ((((Opt.ev (l.take ((min (l.length : Int) 9).toNat)) room).2) == (Opt.few room (((l.take ((min (l.length : Int) 9).toNat)).length : Int) + 1) [] (l.take ((min (l.length : Int) 9).toNat)))) : Bool) = true := by
      first | rfl | (rw [hz]; rfl) | (rw [hz]; exact beq_self_eq_true _)
    refine q_end0 (v := .bool (((Opt.ev (l.take ((min (l.length : Int) 9).toNat)) room).2) == (Opt.few room (((l.take ((min (l.length : Int) 9).toNat)).length : Int) + 1) [] (l.take ((min (l.length : Int) 9).toNat))))) (rt1 rfl (r_tmp rfl)) (i := 1) rfl ?_
    exact (by have hcc := congrArg (fun (y0 : Bool) => (.bool y0 : Value)) hr0; exact hcc)
end Go.Proofs.Ytgjdmnljnimamaa
