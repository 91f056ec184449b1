/- The walks, printed by a program from the translation and a specification. -/
import Derived.Test.YtgjdmnljnimamaaOpF
import Derived.Test.YtgjdmnljnimamaaOpLaw2
import Derived.Test.YtgjdmnljnimamaaOpW2
namespace Go.Proofs.Ytgjdmnljnimamaa
open Go.Sx Go.RowKit
set_option maxHeartbeats 8000000 in
set_option maxRecDepth 100000 in
theorem bestGone_ok (l : List Int) (al : Option Addr) (cl : Nat) (room : Int) (hy1 : 1 ≤ room ∧ l.length ≤ 1000) : FnM Try.prog 41 [.slice al l.length cl, .int .i64 room] (fun w => Rd tInt w al cl l) (Option Addr × Nat) (fun p => .tuple #[.slice p.1 ((Opt.go l room l.length).2.1).length p.2, .int .i64 ((Opt.go l room l.length).2.2)]) (fun p S w => SlO tInt S w p.1 p.2 ((Opt.go l room l.length).2.1)) := by
  refine fnM (nt := 101) (F0 := [(0, .slice al l.length cl), (1, .int .i64 room)]) Try.func41 rfl Try.ntmps41 rfl rfl (fun w0 hpre => ?_)
  have hl := hpre
  have hlhl := hl.2.1
  refine c_seq ?_
  refine c_region ?_
  refine o_pure (p_assign (v := .slice none 0 0) rfl) rfl rfl rfl ?_
  refine o_pure (p_assign (v := .int .i64 0) rfl) rfl rfl rfl ?_
  refine o_nil ?_
  refine q_then ?_
  refine c_seq ?_
  refine c_region ?_
  refine o_pure (p_assign (v := .slice none 0 0) rfl) rfl rfl rfl ?_
  refine o_pure (p_assign (v := .slice none 0 0) rfl) rfl rfl rfl ?_
  refine o_nil ?_
  refine q_then ?_
  refine c_seq ?_
  refine c_region ?_
  refine o_pure (p_assign (v := .int .i64 0) rfl) rfl rfl rfl ?_
  refine o_nil ?_
  refine q_then ?_
  refine c_seq ?_
  refine c_seq ?_
  refine c_region ?_
  refine o_pure (p_assign (v := .int .i64 0) rfl) rfl rfl rfl ?_
  refine o_nil ?_
  refine q_then ?_
  refine c_block ?_
  refine c_ownNil tInt ?_
  refine c_ownNil tInt ?_
  refine c_loop (St := List Int × Option Addr × Nat × (Nat → Prop) × List Int × Option Addr × Nat × (Nat → Prop) × Int × Nat)
    (fun ⟨in_, ain_, cin_, Sin_, gone, agone, cgone, Sgone, misses, i⟩ => [(0, .slice al l.length cl), (1, .int .i64 room), (6, .slice ain_ in_.length cin_), (7, .slice agone gone.length cgone), (8, .int .i64 misses), (9, .int .i64 (i : Int))])
    (fun ⟨in_, ain_, cin_, Sin_, gone, agone, cgone, Sgone, misses, i⟩ => [own tInt Sgone agone cgone gone, own tInt Sin_ ain_ cin_ in_, base w0])
    (fun ⟨in_, ain_, cin_, Sin_, gone, agone, cgone, Sgone, misses, i⟩ => Opt.RI l room in_ gone misses i)
    (fun ⟨in_, ain_, cin_, Sin_, gone, agone, cgone, Sgone, misses, i⟩ => l.length - i)
    ([], none, 0, (fun _ => False), [], none, 0, (fun _ => False), 0, 0) ?_ (Sub.cons rfl (Sub.cons rfl (Sub.cons rfl (Sub.cons rfl (Sub.cons rfl (Sub.cons rfl (Sub.nil _))))))) (fun _ hw => hw) ?_
  · exact Opt.RI.start l room
  rintro ⟨in_, ain_, cin_, Sin_, gone, agone, cgone, Sgone, misses, i⟩ hI K hK3
  have hRI := hI
  obtain ⟨hcl, hcr, hgl, hm0, hm1⟩ := hI.bd hy1.1
  have hil := hI.le
  show SC _ _ Try.prog 101 w0 _ _ [(0, .slice al l.length cl), (1, .int .i64 room), (6, .slice ain_ in_.length cin_), (7, .slice agone gone.length cgone), (8, .int .i64 misses), (9, .int .i64 (i : Int))] [own tInt Sgone agone cgone gone, own tInt Sin_ ain_ cin_ in_, base w0]
  refine c_seq ?_
  refine c_seq ?_
  refine c_region ?_
  refine o_pure (p_move (v := .int .i64 (i : Int)) rfl) rfl rfl rfl ?_
  refine o_pure (p_move (v := .slice al l.length cl) rfl) rfl rfl rfl ?_
  refine o_pure (p_len_slice (len := l.length) rfl rfl Try.underlying23) rfl rfl rfl ?_
  refine o_pure (p_lt (p := (i : Int)) (q := (l.length : Int)) rfl rfl) rfl rfl rfl ?_
  refine o_nil ?_
  refine q_then ?_
  refine c_cond (b := decide ((i : Int) < (l.length : Int))) rfl (fun hc4 => ?_) (fun hc4 => ?_)
  · simp only [decide_eq_true_eq] at hc4
    refine c_skip ?_
    refine q_then ?_
    refine c_seq ?_
    refine c_block ?_
    refine c_seq ?_
    refine c_seq ?_
    refine c_region ?_
    refine o_pure (p_move (v := .slice ain_ in_.length cin_) rfl) rfl rfl rfl ?_
    refine o_pure (p_move (v := .slice al l.length cl) rfl) rfl rfl rfl ?_
    refine o_pure (p_move (v := .int .i64 (i : Int)) rfl) rfl rfl rfl ?_
    refine o_pure (p_indexAddr (L := l) (T := tInt) (i := (i : Int)) rfl rfl (rd_base (i := 2) rfl hl) Try.underlying23 sz3 (by omega) (by omega)) rfl rfl rfl ?_
    refine o_pure (p_loadE1 (i := i) (T := tInt) (L := l) (v := .int .i64 (l[i])) rfl (rd_base (i := 2) rfl hl) (by first | assumption | omega) sh3 rfl) rfl rfl rfl ?_
    refine o_call0 (v := .bool (Ref.hasInt in_ (l[i]))) rfl (hasInt_ok in_ ain_ cin_ (l[i])) hf36 (fun w hw => (rd_own (i := 1) rfl) w hw) rfl ?_
    refine o_nil ?_
    refine q_then ?_
    refine c_cond (b := (Ref.hasInt in_ (l[i]))) rfl (fun hc5 => ?_) (fun hc5 => ?_)
    · skip
      refine c_seq ?_
      refine c_region ?_
      refine o_pure (p_move (v := .slice agone gone.length cgone) rfl) rfl rfl rfl ?_
      refine o_buildSlice (m := 1) (T := tInt) (L := [(-1)]) (vs := [.int .i64 (-1)]) rfl rfl rfl rfl Try.underlying23 sz3 (by decide) ze3 rfl (by decide) rfl (fun S6 a7 => ?_)
      refine o_append (i := 1) (L := gone) (M := [(-1)]) (T := tInt) rfl rfl rfl (rd_own (i := 0) rfl) Try.underlying23 Try.underlying23 (by intro k h; cases h) el3 (by intro z; simp [tInt, one1]) (by decide) (by first | omega | (simp only [List.length_cons, List.length_nil]; omega) | (simp only [List.length_append, List.length_cons, List.length_nil, List.length_take, List.length_drop]; omega)) rfl (fun a9 c10 S11 => ?_)
      refine o_pure (p_assign (v := .slice a9 (gone ++ [(-1)]).length c10) rfl) rfl rfl rfl ?_
      refine o_nil ?_
      refine q_then ?_
      refine c_exit ?_
      refine q_then_exit (q_block_exit (q_then ?_))
      refine c_region ?_
      refine o_pure (p_move (v := .int .i64 (i : Int)) rfl) rfl rfl rfl ?_
      refine o_pure (p_addb (p := (i : Int)) (q := 1) rfl rfl (by omega)) rfl rfl rfl ?_
      refine o_pure (p_assign (v := .int .i64 ((i : Int) + 1)) rfl) rfl rfl rfl ?_
      refine o_nil ?_
      refine q_round hK3 (in_, ain_, cin_, Sin_, (gone ++ [(-1)]), a9, c10, S11, misses, i + 1) ?_ ?_ ?_ ?_
      · clear hK3
        first | exact hRI.hit (by omega) (by assumption) | exact hRI.add (by omega) hno (by assumption) | exact hRI.evict (by omega) hno hfull hbest (by omega)
      · (try dsimp only); omega
      · exact Sub.cons rfl (Sub.cons rfl (Sub.cons rfl (Sub.cons rfl (Sub.cons rfl (Sub.cons rfl (Sub.nil _))))))
      · exact fun _ hw => HeapIs.pick hw [1, 2, 3] (by decide) rfl
    · skip
      have hno := hc5
      refine c_skip ?_
      refine q_then ?_
      refine c_seq ?_
      refine c_region ?_
      refine o_pure (p_move (v := .int .i64 misses) rfl) rfl rfl rfl ?_
      refine o_pure (p_addb (p := misses) (q := 1) rfl rfl (by omega)) rfl rfl rfl ?_
      refine o_pure (p_assign (v := .int .i64 (misses + 1)) rfl) rfl rfl rfl ?_
      refine o_nil ?_
      refine q_then ?_
      refine c_seq ?_
      refine c_seq ?_
      refine c_region ?_
      refine o_pure (p_move (v := .slice ain_ in_.length cin_) rfl) rfl rfl rfl ?_
      refine o_pure (p_len_slice (len := in_.length) rfl rfl Try.underlying23) rfl rfl rfl ?_
      refine o_pure (p_move (v := .int .i64 room) rfl) rfl rfl rfl ?_
      refine o_pure (p_lt (p := (in_.length : Int)) (q := room) rfl rfl) rfl rfl rfl ?_
      refine o_nil ?_
      refine q_then ?_
      refine c_cond (b := decide ((in_.length : Int) < room)) rfl (fun hc12 => ?_) (fun hc12 => ?_)
      · simp only [decide_eq_true_eq] at hc12
        refine c_seq ?_
        refine c_region ?_
        refine o_pure (p_move (v := .slice ain_ in_.length cin_) rfl) rfl rfl rfl ?_
        refine o_pure (p_move (v := .slice al l.length cl) rfl) rfl rfl rfl ?_
        refine o_pure (p_move (v := .int .i64 (i : Int)) rfl) rfl rfl rfl ?_
        refine o_pure (p_indexAddr (L := l) (T := tInt) (i := (i : Int)) rfl rfl (rd_base (i := 2) rfl hl) Try.underlying23 sz3 (by omega) (by omega)) rfl rfl rfl ?_
        refine o_pure (p_loadE1 (i := i) (T := tInt) (L := l) (v := .int .i64 (l[i])) rfl (rd_base (i := 2) rfl hl) (by first | assumption | omega) sh3 rfl) rfl rfl rfl ?_
        refine o_buildSlice (m := 1) (T := tInt) (L := [l[i]]) (vs := [.int .i64 (l[i])]) rfl rfl rfl rfl Try.underlying23 sz3 (by decide) ze3 rfl (by decide) rfl (fun S13 a14 => ?_)
        refine o_append (i := 2) (L := in_) (M := [l[i]]) (T := tInt) rfl rfl rfl (rd_own (i := 0) rfl) Try.underlying23 Try.underlying23 (by intro k h; cases h) el3 (by intro z; simp [tInt, one1]) (by decide) (by first | omega | (simp only [List.length_cons, List.length_nil]; omega) | (simp only [List.length_append, List.length_cons, List.length_nil, List.length_take, List.length_drop]; omega)) rfl (fun a16 c17 S18 => ?_)
        refine o_pure (p_assign (v := .slice a16 (in_ ++ [l[i]]).length c17) rfl) rfl rfl rfl ?_
        refine o_nil ?_
        refine q_then ?_
        refine c_seq ?_
        refine c_region ?_
        refine o_pure (p_move (v := .slice agone gone.length cgone) rfl) rfl rfl rfl ?_
        refine o_buildSlice (m := 1) (T := tInt) (L := [(-1)]) (vs := [.int .i64 (-1)]) rfl rfl rfl rfl Try.underlying23 sz3 (by decide) ze3 rfl (by decide) rfl (fun S19 a20 => ?_)
        refine o_append (i := 2) (L := gone) (M := [(-1)]) (T := tInt) rfl rfl rfl (rd_own (i := 0) rfl) Try.underlying23 Try.underlying23 (by intro k h; cases h) el3 (by intro z; simp [tInt, one1]) (by decide) (by first | omega | (simp only [List.length_cons, List.length_nil]; omega) | (simp only [List.length_append, List.length_cons, List.length_nil, List.length_take, List.length_drop]; omega)) rfl (fun a22 c23 S24 => ?_)
        refine o_pure (p_assign (v := .slice a22 (gone ++ [(-1)]).length c23) rfl) rfl rfl rfl ?_
        refine o_nil ?_
        refine q_then ?_
        refine c_exit ?_
        refine q_then_exit (q_block_exit (q_then ?_))
        refine c_region ?_
        refine o_pure (p_move (v := .int .i64 (i : Int)) rfl) rfl rfl rfl ?_
        refine o_pure (p_addb (p := (i : Int)) (q := 1) rfl rfl (by omega)) rfl rfl rfl ?_
        refine o_pure (p_assign (v := .int .i64 ((i : Int) + 1)) rfl) rfl rfl rfl ?_
        refine o_nil ?_
        refine q_round hK3 ((in_ ++ [l[i]]), a16, c17, S18, (gone ++ [(-1)]), a22, c23, S24, (misses + 1), i + 1) ?_ ?_ ?_ ?_
        · clear hK3
          first | exact hRI.hit (by omega) (by assumption) | exact hRI.add (by omega) hno (by assumption) | exact hRI.evict (by omega) hno hfull hbest (by omega)
        · (try dsimp only); omega
        · exact Sub.cons rfl (Sub.cons rfl (Sub.cons rfl (Sub.cons rfl (Sub.cons rfl (Sub.cons rfl (Sub.nil _))))))
        · exact fun _ hw => HeapIs.pick hw [2, 3, 4] (by decide) rfl
      · simp only [decide_eq_false_iff_not, Int.not_lt] at hc12
        have hfull := hc12
        refine c_skip ?_
        refine q_then ?_
        refine c_seq ?_
        refine c_region ?_
        refine o_pure (p_assign (v := .int .i64 0) rfl) rfl rfl rfl ?_
        refine o_nil ?_
        refine q_then ?_
        refine c_seq ?_
        refine c_seq ?_
        refine c_region ?_
        refine o_pure (p_assign (v := .int .i64 1) rfl) rfl rfl rfl ?_
        refine o_nil ?_
        refine q_then ?_
        refine c_block ?_
        refine c_loop (St := Int × Int)
          (fun ⟨best, k⟩ => [(0, .slice al l.length cl), (1, .int .i64 room), (6, .slice ain_ in_.length cin_), (7, .slice agone gone.length cgone), (8, .int .i64 (misses + 1)), (9, .int .i64 (i : Int)), (10, .int .i64 best), (11, .int .i64 k)])
          (fun ⟨best, k⟩ => [own tInt Sgone agone cgone gone, own tInt Sin_ ain_ cin_ in_, base w0])
          (fun ⟨best, k⟩ => Opt.BI l i in_ best k)
          (fun ⟨best, k⟩ => ((in_.length : Int) - k).toNat)
          (0, 1) ?_ (Sub.cons rfl (Sub.cons rfl (Sub.cons rfl (Sub.cons rfl (Sub.cons rfl (Sub.cons rfl (Sub.cons rfl (Sub.cons rfl (Sub.nil _))))))))) (fun _ hw => hw) ?_
        · exact Opt.BI.start (by omega)
        rintro ⟨best, k⟩ hI K hK25
        have hlo := hI.lo
        have hhi := hI.hi
        have hbb := hI.bd (by omega)
        show SC _ _ Try.prog 101 w0 _ _ [(0, .slice al l.length cl), (1, .int .i64 room), (6, .slice ain_ in_.length cin_), (7, .slice agone gone.length cgone), (8, .int .i64 (misses + 1)), (9, .int .i64 (i : Int)), (10, .int .i64 best), (11, .int .i64 k)] [own tInt Sgone agone cgone gone, own tInt Sin_ ain_ cin_ in_, base w0]
        refine c_seq ?_
        refine c_seq ?_
        refine c_region ?_
        refine o_pure (p_move (v := .int .i64 k) rfl) rfl rfl rfl ?_
        refine o_pure (p_move (v := .slice ain_ in_.length cin_) rfl) rfl rfl rfl ?_
        refine o_pure (p_len_slice (len := in_.length) rfl rfl Try.underlying23) rfl rfl rfl ?_
        refine o_pure (p_lt (p := k) (q := (in_.length : Int)) rfl rfl) rfl rfl rfl ?_
        refine o_nil ?_
        refine q_then ?_
        refine c_cond (b := decide (k < (in_.length : Int))) rfl (fun hc26 => ?_) (fun hc26 => ?_)
        · simp only [decide_eq_true_eq] at hc26
          refine c_skip ?_
          refine q_then ?_
          refine c_seq ?_
          refine c_block ?_
          refine c_seq ?_
          refine c_draw hmix (by kernel_rfl) ?_
          refine w_pure (p_move (v := .slice al l.length cl) rfl) rfl rfl rfl ?_
          refine w_pure (p_move (v := .int .i64 (i : Int)) rfl) rfl rfl rfl ?_
          refine w_pure (p_move (v := .slice ain_ in_.length cin_) rfl) rfl rfl rfl ?_
          refine w_pure (p_move (v := .int .i64 k) rfl) rfl rfl rfl ?_
          refine w_pure (p_indexAddr (L := in_) (T := tInt) (i := k) rfl rfl (rd_own (i := 1) rfl) Try.underlying23 sz3 (by omega) (by omega)) rfl rfl rfl ?_
          refine w_pure (p_loadE1 (i := k.toNat) (T := tInt) (L := in_) (v := .int .i64 (in_[k.toNat])) rfl (rd_own (i := 1) rfl) (by first | assumption | omega) sh3 rfl) rfl rfl rfl ?_
          refine w_call0 (v := .int .i64 ((Opt.ca l (i : Int).toNat (in_[k.toNat]) : Nat) : Int)) rfl (comesAgain_ok l al cl (i : Int) (in_[k.toNat]) (by omega)) hf72 (fun w hw => (rd_base (i := 2) rfl hl) w hw) rfl ?_
          refine w_pure (p_move (v := .slice al l.length cl) rfl) rfl rfl rfl ?_
          refine w_pure (p_move (v := .int .i64 (i : Int)) rfl) rfl rfl rfl ?_
          refine w_pure (p_move (v := .slice ain_ in_.length cin_) rfl) rfl rfl rfl ?_
          refine w_pure (p_move (v := .int .i64 best) rfl) rfl rfl rfl ?_
          refine w_pure (p_indexAddr (L := in_) (T := tInt) (i := best) rfl rfl (rd_own (i := 1) rfl) Try.underlying23 sz3 (by omega) (by omega)) rfl rfl rfl ?_
          refine w_pure (p_loadE1 (i := best.toNat) (T := tInt) (L := in_) (v := .int .i64 (in_[best.toNat])) rfl (rd_own (i := 1) rfl) (by first | assumption | omega) sh3 rfl) rfl rfl rfl ?_
          refine w_call0 (v := .int .i64 ((Opt.ca l (i : Int).toNat (in_[best.toNat]) : Nat) : Int)) rfl (comesAgain_ok l al cl (i : Int) (in_[best.toNat]) (by omega)) hf72 (fun w hw => (rd_base (i := 2) rfl hl) w hw) rfl ?_
          refine w_pure (p_assign (v := .int .i64 ((Opt.ca l (i : Int).toNat (in_[k.toNat]) : Nat) : Int)) rfl) rfl rfl rfl ?_
          refine w_pure (p_assign (v := .int .i64 ((Opt.ca l (i : Int).toNat (in_[best.toNat]) : Nat) : Int)) rfl) rfl rfl rfl ?_
          refine w_nil ?_
          refine q_then ?_
          refine c_seq ?_
          refine c_draw hmix (by kernel_rfl) ?_
          refine w_pure (p_move (v := .int .i64 ((Opt.ca l (i : Int).toNat (in_[k.toNat]) : Nat) : Int)) rfl) rfl rfl rfl ?_
          refine w_pure (p_move (v := .int .i64 ((Opt.ca l (i : Int).toNat (in_[best.toNat]) : Nat) : Int)) rfl) rfl rfl rfl ?_
          refine w_pure (p_gt (p := ((Opt.ca l (i : Int).toNat (in_[k.toNat]) : Nat) : Int)) (q := ((Opt.ca l (i : Int).toNat (in_[best.toNat]) : Nat) : Int)) rfl rfl) rfl rfl rfl ?_
          refine w_pure (p_move (v := .bool (decide (((Opt.ca l (i : Int).toNat (in_[best.toNat]) : Nat) : Int) < ((Opt.ca l (i : Int).toNat (in_[k.toNat]) : Nat) : Int)))) rfl) rfl rfl rfl ?_
          refine w_or (p := 83) 15 ((((Opt.ca l (i : Int).toNat (in_[k.toNat]) : Nat) : Int) == ((Opt.ca l (i : Int).toNat (in_[best.toNat]) : Nat) : Int)) && decide (in_[k.toNat] < in_[best.toNat])) ?_ ?_ ?_
          · intro hb27 hk
            simp only [decide_eq_false_iff_not, Int.not_lt] at hb27
            refine w_unguard 68 rfl rfl ?_
            refine w_pure (p_move (v := .int .i64 ((Opt.ca l (i : Int).toNat (in_[k.toNat]) : Nat) : Int)) rfl) rfl rfl rfl ?_
            refine w_unguard 68 rfl rfl ?_
            refine w_pure (p_move (v := .int .i64 ((Opt.ca l (i : Int).toNat (in_[best.toNat]) : Nat) : Int)) rfl) rfl rfl rfl ?_
            refine w_unguard 68 rfl rfl ?_
            refine w_pure (p_eq (p := ((Opt.ca l (i : Int).toNat (in_[k.toNat]) : Nat) : Int)) (q := ((Opt.ca l (i : Int).toNat (in_[best.toNat]) : Nat) : Int)) rfl rfl) rfl rfl rfl ?_
            refine w_unguard 68 rfl rfl ?_
            refine w_pure (p_move (v := .bool (((Opt.ca l (i : Int).toNat (in_[k.toNat]) : Nat) : Int) == ((Opt.ca l (i : Int).toNat (in_[best.toNat]) : Nat) : Int))) rfl) rfl rfl rfl ?_
            refine w_and (p := 82) 10 (decide (in_[k.toNat] < in_[best.toNat])) ?_ ?_ ?_
            · intro hb28 hk
              simp only [beq_iff_eq] at hb28
              refine w_unguard 72 rfl rfl ?_
              refine w_pure (p_move (v := .slice ain_ in_.length cin_) rfl) rfl rfl rfl ?_
              refine w_unguard 72 rfl rfl ?_
              refine w_pure (p_move (v := .int .i64 k) rfl) rfl rfl rfl ?_
              refine w_unguard 72 rfl rfl ?_
              refine w_pure (p_indexAddr (L := in_) (T := tInt) (i := k) rfl rfl (rd_own (i := 1) rfl) Try.underlying23 sz3 (by omega) (by omega)) rfl rfl rfl ?_
              refine w_unguard 72 rfl rfl ?_
              refine w_pure (p_loadE1 (i := k.toNat) (T := tInt) (L := in_) (v := .int .i64 (in_[k.toNat])) rfl (rd_own (i := 1) rfl) (by first | assumption | omega) sh3 rfl) rfl rfl rfl ?_
              refine w_unguard 72 rfl rfl ?_
              refine w_pure (p_move (v := .slice ain_ in_.length cin_) rfl) rfl rfl rfl ?_
              refine w_unguard 72 rfl rfl ?_
              refine w_pure (p_move (v := .int .i64 best) rfl) rfl rfl rfl ?_
              refine w_unguard 72 rfl rfl ?_
              refine w_pure (p_indexAddr (L := in_) (T := tInt) (i := best) rfl rfl (rd_own (i := 1) rfl) Try.underlying23 sz3 (by omega) (by omega)) rfl rfl rfl ?_
              refine w_unguard 72 rfl rfl ?_
              refine w_pure (p_loadE1 (i := best.toNat) (T := tInt) (L := in_) (v := .int .i64 (in_[best.toNat])) rfl (rd_own (i := 1) rfl) (by first | assumption | omega) sh3 rfl) rfl rfl rfl ?_
              refine w_unguard 72 rfl rfl ?_
              refine w_pure (p_lt (p := in_[k.toNat]) (q := in_[best.toNat]) rfl rfl) rfl rfl rfl ?_
              refine w_unguard 68 rfl rfl ?_
              refine w_pure (p_pick_true (u := .bool (decide (in_[k.toNat] < in_[best.toNat]))) rfl rfl) rfl rfl rfl ?_
              exact w_sub (Sub.cons rfl (Sub.skip rfl (Sub.skip rfl (Sub.skip rfl (Sub.skip rfl (Sub.skip rfl (Sub.skip rfl (Sub.skip rfl (Sub.skip rfl (Sub.skip rfl (Sub.skip rfl (Sub.skip rfl (Sub.refl _))))))))))))) hk
            · intro hb28 hk
              refine w_guard_no rfl 72 rfl rfl rfl rfl rfl ?_
              refine w_guard_no rfl 72 rfl rfl rfl rfl rfl ?_
              refine w_guard_no rfl 72 rfl rfl rfl rfl rfl ?_
              refine w_guard_no rfl 72 rfl rfl rfl rfl rfl ?_
              refine w_guard_no rfl 72 rfl rfl rfl rfl rfl ?_
              refine w_guard_no rfl 72 rfl rfl rfl rfl rfl ?_
              refine w_guard_no rfl 72 rfl rfl rfl rfl rfl ?_
              refine w_guard_no rfl 72 rfl rfl rfl rfl rfl ?_
              refine w_guard_no rfl 72 rfl rfl rfl rfl rfl ?_
              refine w_unguard 68 rfl rfl ?_
              refine w_pure (p_pick_false (v := .bool false) rfl rfl) rfl rfl rfl ?_
              exact w_sub (Sub.cons rfl (Sub.skip rfl (Sub.skip rfl (Sub.skip rfl (Sub.skip rfl (Sub.skip rfl (Sub.skip rfl (Sub.skip rfl (Sub.skip rfl (Sub.skip rfl (Sub.skip rfl (Sub.skip rfl (Sub.refl _))))))))))))) hk
            refine w_pure (p_pick_false (v := .bool ((((Opt.ca l (i : Int).toNat (in_[k.toNat]) : Nat) : Int) == ((Opt.ca l (i : Int).toNat (in_[best.toNat]) : Nat) : Int)) && decide (in_[k.toNat] < in_[best.toNat]))) rfl rfl) rfl rfl rfl ?_
            exact w_sub (Sub.cons rfl (Sub.skip rfl (Sub.skip rfl (Sub.skip rfl (Sub.skip rfl (Sub.skip rfl (Sub.skip rfl (Sub.refl _)))))))) hk
          · intro hb27 hk
            refine w_guard_no rfl 68 rfl rfl rfl rfl rfl ?_
            refine w_guard_no rfl 68 rfl rfl rfl rfl rfl ?_
            refine w_guard_no rfl 68 rfl rfl rfl rfl rfl ?_
            refine w_guard_no rfl 68 rfl rfl rfl rfl rfl ?_
            refine w_guard_no rfl 72 rfl rfl rfl rfl rfl ?_
            refine w_guard_no rfl 72 rfl rfl rfl rfl rfl ?_
            refine w_guard_no rfl 72 rfl rfl rfl rfl rfl ?_
            refine w_guard_no rfl 72 rfl rfl rfl rfl rfl ?_
            refine w_guard_no rfl 72 rfl rfl rfl rfl rfl ?_
            refine w_guard_no rfl 72 rfl rfl rfl rfl rfl ?_
            refine w_guard_no rfl 72 rfl rfl rfl rfl rfl ?_
            refine w_guard_no rfl 72 rfl rfl rfl rfl rfl ?_
            refine w_guard_no rfl 72 rfl rfl rfl rfl rfl ?_
            refine w_guard_no rfl 68 rfl rfl rfl rfl rfl ?_
            refine w_pure (p_pick_true (u := .bool true) rfl rfl) rfl rfl rfl ?_
            exact w_sub (Sub.cons rfl (Sub.skip rfl (Sub.skip rfl (Sub.skip rfl (Sub.skip rfl (Sub.skip rfl (Sub.skip rfl (Sub.skip rfl (Sub.skip rfl (Sub.skip rfl (Sub.skip rfl (Sub.skip rfl (Sub.skip rfl (Sub.skip rfl (Sub.skip rfl (Sub.skip rfl (Sub.skip rfl (Sub.refl _)))))))))))))))))) hk
          refine w_nil ?_
          refine q_then ?_
          refine c_cond (b := (decide (((Opt.ca l (i : Int).toNat (in_[best.toNat]) : Nat) : Int) < ((Opt.ca l (i : Int).toNat (in_[k.toNat]) : Nat) : Int)) || ((((Opt.ca l (i : Int).toNat (in_[k.toNat]) : Nat) : Int) == ((Opt.ca l (i : Int).toNat (in_[best.toNat]) : Nat) : Int)) && decide (in_[k.toNat] < in_[best.toNat])))) rfl (fun hc29 => ?_) (fun hc29 => ?_)
          · simp only [Bool.or_eq_true, decide_eq_true_eq, Bool.and_eq_true, beq_iff_eq] at hc29
            have hpk := hc29
            refine c_region ?_
            refine o_pure (p_move (v := .int .i64 k) rfl) rfl rfl rfl ?_
            refine o_pure (p_assign (v := .int .i64 k) rfl) rfl rfl rfl ?_
            refine o_nil ?_
            refine q_block_normal (q_then ?_)
            refine c_region ?_
            refine o_pure (p_move (v := .int .i64 k) rfl) rfl rfl rfl ?_
            refine o_pure (p_addb (p := k) (q := 1) rfl rfl (by omega)) rfl rfl rfl ?_
            refine o_pure (p_assign (v := .int .i64 (k + 1)) rfl) rfl rfl rfl ?_
            refine o_nil ?_
            refine q_round hK25 (k, (k + 1)) ?_ ?_ ?_ ?_
            · clear hK25
              first | exact hI.take_ (by omega) (by omega) hpk | exact hI.skip (by omega) (by omega) hpk
            · (try dsimp only); omega
            · exact Sub.cons rfl (Sub.cons rfl (Sub.cons rfl (Sub.cons rfl (Sub.cons rfl (Sub.cons rfl (Sub.cons rfl (Sub.cons rfl (Sub.nil _))))))))
            · exact fun _ hw => HeapIs.pick hw [0, 1, 2] (by decide) rfl
          · simp only [Bool.or_eq_false_iff, decide_eq_false_iff_not, Int.not_lt, Bool.and_eq_false_iff, beq_eq_false_iff_ne, ne_eq] at hc29
            have hpk := hc29
            refine c_skip ?_
            refine q_block_normal (q_then ?_)
            refine c_region ?_
            refine o_pure (p_move (v := .int .i64 k) rfl) rfl rfl rfl ?_
            refine o_pure (p_addb (p := k) (q := 1) rfl rfl (by omega)) rfl rfl rfl ?_
            refine o_pure (p_assign (v := .int .i64 (k + 1)) rfl) rfl rfl rfl ?_
            refine o_nil ?_
            refine q_round hK25 (best, (k + 1)) ?_ ?_ ?_ ?_
            · clear hK25
              first | exact hI.take_ (by omega) (by omega) hpk | exact hI.skip (by omega) (by omega) hpk
            · (try dsimp only); omega
            · exact Sub.cons rfl (Sub.cons rfl (Sub.cons rfl (Sub.cons rfl (Sub.cons rfl (Sub.cons rfl (Sub.cons rfl (Sub.cons rfl (Sub.nil _))))))))
            · exact fun _ hw => HeapIs.pick hw [0, 1, 2] (by decide) rfl
        · simp only [decide_eq_false_iff_not, Int.not_lt] at hc26
          have hbest := hI.done (by omega)
          refine c_exit ?_
          refine q_then_exit (q_then_exit (q_block_exit (q_then ?_)))
          refine c_seq ?_
          refine c_region ?_
          refine o_pure (p_move (v := .slice agone gone.length cgone) rfl) rfl rfl rfl ?_
          refine o_pure (p_move (v := .slice ain_ in_.length cin_) rfl) rfl rfl rfl ?_
          refine o_pure (p_move (v := .int .i64 best) rfl) rfl rfl rfl ?_
          refine o_pure (p_indexAddr (L := in_) (T := tInt) (i := best) rfl rfl (rd_own (i := 1) rfl) Try.underlying23 sz3 (by omega) (by omega)) rfl rfl rfl ?_
          refine o_pure (p_loadE1 (i := best.toNat) (T := tInt) (L := in_) (v := .int .i64 (in_[best.toNat])) rfl (rd_own (i := 1) rfl) (by first | assumption | omega) sh3 rfl) rfl rfl rfl ?_
          refine o_buildSlice (m := 1) (T := tInt) (L := [in_[best.toNat]]) (vs := [.int .i64 (in_[best.toNat])]) rfl rfl rfl rfl Try.underlying23 sz3 (by decide) ze3 rfl (by decide) rfl (fun S30 a31 => ?_)
          refine o_append (i := 1) (L := gone) (M := [in_[best.toNat]]) (T := tInt) rfl rfl rfl (rd_own (i := 0) rfl) Try.underlying23 Try.underlying23 (by intro k h; cases h) el3 (by intro z; simp [tInt, one1]) (by decide) (by first | omega | (simp only [List.length_cons, List.length_nil]; omega) | (simp only [List.length_append, List.length_cons, List.length_nil, List.length_take, List.length_drop]; omega)) rfl (fun a33 c34 S35 => ?_)
          refine o_pure (p_assign (v := .slice a33 (gone ++ [in_[best.toNat]]).length c34) rfl) rfl rfl rfl ?_
          refine o_nil ?_
          refine q_then ?_
          refine c_region ?_
          refine o_pure (p_move (v := .slice ain_ in_.length cin_) rfl) rfl rfl rfl ?_
          refine o_pure (p_move (v := .int .i64 best) rfl) rfl rfl rfl ?_
          refine o_pure (p_move (v := .slice al l.length cl) rfl) rfl rfl rfl ?_
          refine o_pure (p_move (v := .int .i64 (i : Int)) rfl) rfl rfl rfl ?_
          refine o_pure (p_indexAddr (L := l) (T := tInt) (i := (i : Int)) rfl rfl (rd_base (i := 3) rfl hl) Try.underlying23 sz3 (by omega) (by omega)) rfl rfl rfl ?_
          refine o_pure (p_loadE1 (i := i) (T := tInt) (L := l) (v := .int .i64 (l[i])) rfl (rd_base (i := 3) rfl hl) (by first | assumption | omega) sh3 rfl) rfl rfl rfl ?_
          refine o_pure (p_indexAddr (L := in_) (T := tInt) (i := best) rfl rfl (rd_own (i := 2) rfl) Try.underlying23 sz3 (by omega) (by omega)) rfl rfl rfl ?_
          refine o_storeW (i := 2) (T := tInt) (idx := best.toNat) (v := .int .i64 (l[i])) (vs := [.int .i64 (l[i])]) (z := l[i]) (F' := [(0, .slice al l.length cl), (1, .int .i64 room), (6, .slice ain_ (in_.set best.toNat (l[i])).length cin_), (7, .slice a33 (gone ++ [in_[best.toNat]]).length c34), (8, .int .i64 (misses + 1)), (9, .int .i64 (i : Int))]) rfl rfl rfl rfl (by first | assumption | omega | (simp only [List.length_set]; omega)) sz3 rfl rfl rfl rfl (Sub.cons rfl (Sub.cons rfl (Sub.cons (by first | (simp only [List.length_set]; rfl) | (show some _ = some _; congr 2; rw [List.length_set]) | (rw [List.length_set]; rfl)) (Sub.cons rfl (Sub.cons rfl (Sub.cons rfl (Sub.nil _))))))) ?_
          refine o_nil ?_
          refine q_block_normal (q_then ?_)
          refine c_region ?_
          refine o_pure (p_move (v := .int .i64 (i : Int)) rfl) rfl rfl rfl ?_
          refine o_pure (p_addb (p := (i : Int)) (q := 1) rfl rfl (by omega)) rfl rfl rfl ?_
          refine o_pure (p_assign (v := .int .i64 ((i : Int) + 1)) rfl) rfl rfl rfl ?_
          refine o_nil ?_
          refine q_round hK3 ((in_.set best.toNat (l[i])), ain_, cin_, Sin_, (gone ++ [in_[best.toNat]]), a33, c34, S35, (misses + 1), i + 1) ?_ ?_ ?_ ?_
          · clear hK3
            first | exact hRI.hit (by omega) (by assumption) | exact hRI.add (by omega) hno (by assumption) | exact hRI.evict (by omega) hno hfull hbest (by omega)
          · (try dsimp only); omega
          · exact Sub.cons rfl (Sub.cons rfl (Sub.cons rfl (Sub.cons rfl (Sub.cons rfl (Sub.cons rfl (Sub.nil _))))))
          · exact fun _ hw => HeapIs.pick hw [1, 2, 3] (by decide) rfl
  · simp only [decide_eq_false_iff_not, Int.not_lt] at hc4
    refine c_exit ?_
    refine q_then_exit (q_then_exit (q_block_exit (q_then ?_)))
    refine c_seq ?_
    refine c_region ?_
    refine o_pure (p_move (v := .slice agone gone.length cgone) rfl) rfl rfl rfl ?_
    refine o_pure (p_move (v := .int .i64 misses) rfl) rfl rfl rfl ?_
    refine o_pure (p_assign (v := .slice agone gone.length cgone) rfl) rfl rfl rfl ?_
    refine o_pure (p_assign (v := .int .i64 misses) rfl) rfl rfl rfl ?_
    refine o_nil ?_
    refine q_then ?_
    refine c_ret ?_
    obtain ⟨hd1, hd2⟩ := hI.done (by omega)
    have hr0 : (gone : List Int) = ((Opt.go l room l.length).2.1) := by
      first | exact hd1 | exact hd2
    have hr1 : (misses : Int) = ((Opt.go l room l.length).2.2) := by
      first | exact hd1 | exact hd2
    refine q_endM (p := (agone, cgone)) Sgone (rt2 rfl (r_tmp rfl) (r_tmp rfl)) (i := 2) rfl ?_ ?_ ?_
    · exact (by have hcc := congr (congrArg (fun (y0 : List Int) (y1 : Int) => (.tuple #[.slice agone y0.length cgone, .int .i64 y1] : Value)) hr0) hr1; exact hcc)
    · exact fun w hw => hw.above (i := 2) (j := 0) (by decide) rfl rfl
    · intro w hw; exact Eq.mp (congrArg (fun y => SlO tInt _ w agone cgone y) hr0) ((hw.at (i := 0) rfl).here)
end Go.Proofs.Ytgjdmnljnimamaa
