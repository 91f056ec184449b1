/- The walks, printed by a program from the translation and a specification. -/
import Derived.Test.YtgjdmnljnimamaaRgF
import Derived.Test.YtgjdmnljnimamaaRgLaw3
import Derived.Test.YtgjdmnljnimamaaRgW2
namespace Go.Proofs.Ytgjdmnljnimamaa
open Go.Sx Go.RowKit
set_option maxHeartbeats 8000000 in
set_option maxRecDepth 100000 in
theorem rfadd_ok (l : List DPoint) (al : Option Addr) (cl : Nat) (s : Int) (ps : List Int) (aps : Option Addr) (cps : Nat) (hy1 : Rg.Ok l ∧ ps.length ≤ 1000000) : FnM Try.prog 21 [.slice al l.length cl, .int .i64 s, .slice aps ps.length cps] (fun w => Rd tPoint w al cl l ∧ Rd tInt w aps cps ps) (Option Addr × Nat) (fun p => .tuple #[.slice p.1 (Rg.add l s ps).length p.2, .int .i64 (Rg.addErr l s ps)]) (fun p S w => SlO tPoint S w p.1 p.2 (Rg.add l s ps)) := by
  refine fnM (nt := 142) (F0 := [(0, .slice al l.length cl), (1, .int .i64 s), (2, .slice aps ps.length cps)]) Try.func21 rfl Try.ntmps21 rfl rfl (fun w0 hpre => ?_)
  obtain ⟨hl, hps⟩ := hpre
  have hlhl := hl.2.1
  have hlhps := hps.2.1
  have hck := Rg.check_ok.2 hy1.1
  have hlen := hy1.1.len
  refine c_seq ?_
  refine c_region ?_
  refine o_pure (p_assign (v := .slice none 0 0) rfl) rfl rfl rfl ?_
  refine o_pure (p_assign (v := .int .i64 0) rfl) rfl rfl rfl ?_
  refine o_nil ?_
  refine q_then ?_
  refine c_seq ?_
  refine c_seq ?_
  refine c_region ?_
  refine o_pure (p_move (v := .int .i64 s) rfl) rfl rfl rfl ?_
  refine o_call0 (v := .bool (Ref.between s (0 : Int) (19 : Int))) rfl (between_ok s (0 : Int) (19 : Int)) hf57 (fun _ _ => trivial) rfl ?_
  refine o_pure (p_not (b := (Ref.between s (0 : Int) (19 : Int))) rfl) rfl rfl rfl ?_
  refine o_nil ?_
  refine q_then ?_
  refine c_cond (b := (!(Ref.between s (0 : Int) (19 : Int)))) rfl (fun hc1 => ?_) (fun hc1 => ?_)
  · simp only [Bool.not_eq_true'] at hc1
    have hwr : Rg.rightAdd s ps = false := Rg.wrong_shard (by rw [← Rg.between_sh]; exact hc1)
    refine c_seq ?_
    refine c_region ?_
    refine o_pure (p_assign (v := .slice none 0 0) rfl) rfl rfl rfl ?_
    refine o_pure (p_assign (v := .int .i64 3) rfl) rfl rfl rfl ?_
    refine o_nil ?_
    refine q_then ?_
    refine c_ret ?_
    refine q_then_ret ?_
    obtain ⟨hv1, hv2⟩ : _ ∧ _ := by first | exact Rg.ad2 hck hwr | exact Rg.ad3 hck hri (Rg.twice_p (i := i1) (k := k1) hri hy1.1.fine (by omega) (by omega) (by assumption)) | exact Rg.ad3 hck hri (Rg.twice_l (i := i1) (k := k2) hri hy1.1.fine (by omega) (by omega) (by assumption)) | exact Rg.ref_many hck hri ht (by omega) | exact Rg.ref_done hck hri ht hal (by omega) hI (by omega)
    have hr0 : ([] : List DPoint) = (Rg.add l s ps) := by
      first | exact hv1.symm | exact hv2.symm
    have hr1 : (3 : Int) = (Rg.addErr l s ps) := by
      first | exact hv1.symm | exact hv2.symm
    refine q_endM (p := (none, 0)) (fun _ => False) (rt2 rfl (r_tmp rfl) (r_tmp rfl)) (i := 0) rfl ?_ ?_ ?_
    · exact (by have hcc := congr (congrArg (fun (y0 : List DPoint) (y1 : Int) => (.tuple #[.slice none y0.length 0, .int .i64 y1] : Value)) hr0) hr1; exact hcc)
    · intro w hw b hb; exact hb.elim
    · intro w hw; exact Eq.mp (congrArg (fun y => SlO tPoint _ w none 0 y) hr0) (SlO.nil tPoint w)
  · simp only [Bool.not_eq_false'] at hc1
    have hsh : Rg.okShard s = true := by rw [← Rg.between_sh]; exact hc1
    refine c_skip ?_
    refine q_then ?_
    refine c_seq ?_
    refine c_seq ?_
    refine c_region ?_
    refine o_pure (p_assign (v := .int .i64 0) rfl) rfl rfl rfl ?_
    refine o_nil ?_
    refine q_then ?_
    refine c_block ?_
    refine c_loop (St := Nat)
      (fun i => [(0, .slice al l.length cl), (1, .int .i64 s), (2, .slice aps ps.length cps), (8, .int .i64 (i : Int))])
      (fun i => [base w0])
      (fun i => Rg.PlI ps i)
      (fun i => ps.length - i)
      0 ?_ (Sub.cons rfl (Sub.cons rfl (Sub.cons rfl (Sub.cons rfl (Sub.nil _))))) (fun _ hw => hw) ?_
    · exact Rg.PlI.start _
    rintro i hI K hK2
    have hle := hI.1
    show SC _ _ Try.prog 142 w0 _ _ [(0, .slice al l.length cl), (1, .int .i64 s), (2, .slice aps ps.length cps), (8, .int .i64 (i : Int))] [base w0]
    refine c_seq ?_
    refine c_seq ?_
    refine c_region ?_
    refine o_pure (p_move (v := .int .i64 (i : Int)) rfl) rfl rfl rfl ?_
    refine o_pure (p_move (v := .slice aps ps.length cps) rfl) rfl rfl rfl ?_
    refine o_pure (p_len_slice (len := ps.length) rfl rfl Try.underlying23) rfl rfl rfl ?_
    refine o_pure (p_lt (p := (i : Int)) (q := (ps.length : Int)) rfl rfl) rfl rfl rfl ?_
    refine o_nil ?_
    refine q_then ?_
    refine c_cond (b := decide ((i : Int) < (ps.length : Int))) rfl (fun hc3 => ?_) (fun hc3 => ?_)
    · simp only [decide_eq_true_eq] at hc3
      refine c_skip ?_
      refine q_then ?_
      refine c_seq ?_
      refine c_block ?_
      refine c_seq ?_
      refine c_region ?_
      refine o_pure (p_move (v := .slice aps ps.length cps) rfl) rfl rfl rfl ?_
      refine o_pure (p_move (v := .int .i64 (i : Int)) rfl) rfl rfl rfl ?_
      refine o_pure (p_indexAddr (L := ps) (T := tInt) (i := (i : Int)) rfl rfl (rd_base (i := 0) rfl hps) Try.underlying23 sz3 (by omega) (by omega)) rfl rfl rfl ?_
      refine o_pure (p_loadE1 (i := i) (T := tInt) (L := ps) (v := .int .i64 (ps[i])) rfl (rd_base (i := 0) rfl hps) (by first | assumption | omega) sh3 rfl) rfl rfl rfl ?_
      refine o_call0 (v := .bool (Ref.between (ps[i]) (0 : Int) (65535 : Int))) rfl (between_ok (ps[i]) (0 : Int) (65535 : Int)) hf57 (fun _ _ => trivial) rfl ?_
      refine o_pure (p_not (b := (Ref.between (ps[i]) (0 : Int) (65535 : Int))) rfl) rfl rfl rfl ?_
      refine o_nil ?_
      refine q_then ?_
      refine c_cond (b := (!(Ref.between (ps[i]) (0 : Int) (65535 : Int)))) rfl (fun hc4 => ?_) (fun hc4 => ?_)
      · simp only [Bool.not_eq_true'] at hc4
        have hwr : Rg.rightAdd s ps = false := Rg.PlI.bad (by omega) hc4
        refine c_seq ?_
        refine c_region ?_
        refine o_pure (p_assign (v := .slice none 0 0) rfl) rfl rfl rfl ?_
        refine o_pure (p_assign (v := .int .i64 3) rfl) rfl rfl rfl ?_
        refine o_nil ?_
        refine q_then ?_
        refine c_ret ?_
        refine q_block_ret (q_then_ret (q_then_ret (q_block_ret (q_then_ret ?_))))
        obtain ⟨hv1, hv2⟩ : _ ∧ _ := by first | exact Rg.ad2 hck hwr | exact Rg.ad3 hck hri (Rg.twice_p (i := i1) (k := k1) hri hy1.1.fine (by omega) (by omega) (by assumption)) | exact Rg.ad3 hck hri (Rg.twice_l (i := i1) (k := k2) hri hy1.1.fine (by omega) (by omega) (by assumption)) | exact Rg.ref_many hck hri ht (by omega) | exact Rg.ref_done hck hri ht hal (by omega) hI (by omega)
        have hr0 : ([] : List DPoint) = (Rg.add l s ps) := by
          first | exact hv1.symm | exact hv2.symm
        have hr1 : (3 : Int) = (Rg.addErr l s ps) := by
          first | exact hv1.symm | exact hv2.symm
        refine q_endM (p := (none, 0)) (fun _ => False) (rt2 rfl (r_tmp rfl) (r_tmp rfl)) (i := 0) rfl ?_ ?_ ?_
        · exact (by have hcc := congr (congrArg (fun (y0 : List DPoint) (y1 : Int) => (.tuple #[.slice none y0.length 0, .int .i64 y1] : Value)) hr0) hr1; exact hcc)
        · intro w hw b hb; exact hb.elim
        · intro w hw; exact Eq.mp (congrArg (fun y => SlO tPoint _ w none 0 y) hr0) (SlO.nil tPoint w)
      · simp only [Bool.not_eq_false'] at hc4
        refine c_skip ?_
        refine q_block_normal (q_then ?_)
        refine c_region ?_
        refine o_pure (p_move (v := .int .i64 (i : Int)) rfl) rfl rfl rfl ?_
        refine o_pure (p_addb (p := (i : Int)) (q := 1) rfl rfl (by omega)) rfl rfl rfl ?_
        refine o_pure (p_assign (v := .int .i64 ((i : Int) + 1)) rfl) rfl rfl rfl ?_
        refine o_nil ?_
        refine q_round hK2 (i + 1) ?_ ?_ ?_ ?_
        · clear hK2
          exact hI.next (by omega) (by assumption)
        · (try dsimp only); omega
        · exact Sub.cons rfl (Sub.cons rfl (Sub.cons rfl (Sub.cons rfl (Sub.nil _))))
        · exact fun _ hw => HeapIs.pick hw [0] (by decide) rfl
    · simp only [decide_eq_false_iff_not, Int.not_lt] at hc3
      have hri : Rg.rightAdd s ps = true := Rg.right_of hsh (by omega) hI.2
      refine c_exit ?_
      refine q_then_exit (q_then_exit (q_block_exit (q_then ?_)))
      refine c_seq ?_
      refine c_seq ?_
      refine c_region ?_
      refine o_pure (p_assign (v := .int .i64 0) rfl) rfl rfl rfl ?_
      refine o_nil ?_
      refine q_then ?_
      refine c_block ?_
      refine c_loop (St := Nat)
        (fun i1 => [(0, .slice al l.length cl), (1, .int .i64 s), (2, .slice aps ps.length cps), (9, .int .i64 (i1 : Int))])
        (fun i1 => [base w0])
        (fun i1 => Rg.DInv l ps i1)
        (fun i1 => ps.length - i1)
        0 ?_ (Sub.cons rfl (Sub.cons rfl (Sub.cons rfl (Sub.cons rfl (Sub.nil _))))) (fun _ hw => hw) ?_
      · exact Rg.DInv.start _ _
      rintro i1 hI K hK5
      have hle1 := hI.1
      have hD := hI
      show SC _ _ Try.prog 142 w0 _ _ [(0, .slice al l.length cl), (1, .int .i64 s), (2, .slice aps ps.length cps), (9, .int .i64 (i1 : Int))] [base w0]
      refine c_seq ?_
      refine c_seq ?_
      refine c_region ?_
      refine o_pure (p_move (v := .int .i64 (i1 : Int)) rfl) rfl rfl rfl ?_
      refine o_pure (p_move (v := .slice aps ps.length cps) rfl) rfl rfl rfl ?_
      refine o_pure (p_len_slice (len := ps.length) rfl rfl Try.underlying23) rfl rfl rfl ?_
      refine o_pure (p_lt (p := (i1 : Int)) (q := (ps.length : Int)) rfl rfl) rfl rfl rfl ?_
      refine o_nil ?_
      refine q_then ?_
      refine c_cond (b := decide ((i1 : Int) < (ps.length : Int))) rfl (fun hc6 => ?_) (fun hc6 => ?_)
      · simp only [decide_eq_true_eq] at hc6
        refine c_skip ?_
        refine q_then ?_
        refine c_seq ?_
        refine c_block ?_
        refine c_seq ?_
        refine c_seq ?_
        refine c_region ?_
        refine o_pure (p_assign (v := .int .i64 0) rfl) rfl rfl rfl ?_
        refine o_nil ?_
        refine q_then ?_
        refine c_block ?_
        refine c_loop (St := Nat)
          (fun k1 => [(0, .slice al l.length cl), (1, .int .i64 s), (2, .slice aps ps.length cps), (9, .int .i64 (i1 : Int)), (10, .int .i64 (k1 : Int))])
          (fun k1 => [base w0])
          (fun k1 => ∃ h : i1 < ps.length, Rg.EInv ps i1 k1 h)
          (fun k1 => i1 - k1)
          0 ?_ (Sub.cons rfl (Sub.cons rfl (Sub.cons rfl (Sub.cons rfl (Sub.cons rfl (Sub.nil _)))))) (fun _ hw => hw) ?_
        · exact ⟨by omega, Rg.EInv.start _⟩
        rintro k1 hI K hK7
        obtain ⟨hI0, hI⟩ := hI
        have hle2 := hI.1
        show SC _ _ Try.prog 142 w0 _ _ [(0, .slice al l.length cl), (1, .int .i64 s), (2, .slice aps ps.length cps), (9, .int .i64 (i1 : Int)), (10, .int .i64 (k1 : Int))] [base w0]
        refine c_seq ?_
        refine c_seq ?_
        refine c_region ?_
        refine o_pure (p_move (v := .int .i64 (k1 : Int)) rfl) rfl rfl rfl ?_
        refine o_pure (p_move (v := .int .i64 (i1 : Int)) rfl) rfl rfl rfl ?_
        refine o_pure (p_lt (p := (k1 : Int)) (q := (i1 : Int)) rfl rfl) rfl rfl rfl ?_
        refine o_nil ?_
        refine q_then ?_
        refine c_cond (b := decide ((k1 : Int) < (i1 : Int))) rfl (fun hc8 => ?_) (fun hc8 => ?_)
        · simp only [decide_eq_true_eq] at hc8
          refine c_skip ?_
          refine q_then ?_
          refine c_seq ?_
          refine c_block ?_
          refine c_seq ?_
          refine c_draw hmix (by kernel_rfl) ?_
          refine w_pure (p_move (v := .slice aps ps.length cps) rfl) rfl rfl rfl ?_
          refine w_pure (p_move (v := .int .i64 (k1 : Int)) rfl) rfl rfl rfl ?_
          refine w_pure (p_indexAddr (L := ps) (T := tInt) (i := (k1 : Int)) rfl rfl (rd_base (i := 0) rfl hps) Try.underlying23 sz3 (by omega) (by omega)) rfl rfl rfl ?_
          refine w_pure (p_loadE1 (i := k1) (T := tInt) (L := ps) (v := .int .i64 (ps[k1])) rfl (rd_base (i := 0) rfl hps) (by first | assumption | omega) sh3 rfl) rfl rfl rfl ?_
          refine w_pure (p_move (v := .slice aps ps.length cps) rfl) rfl rfl rfl ?_
          refine w_pure (p_move (v := .int .i64 (i1 : Int)) rfl) rfl rfl rfl ?_
          refine w_pure (p_indexAddr (L := ps) (T := tInt) (i := (i1 : Int)) rfl rfl (rd_base (i := 0) rfl hps) Try.underlying23 sz3 (by omega) (by omega)) rfl rfl rfl ?_
          refine w_pure (p_loadE1 (i := i1) (T := tInt) (L := ps) (v := .int .i64 (ps[i1])) rfl (rd_base (i := 0) rfl hps) (by first | assumption | omega) sh3 rfl) rfl rfl rfl ?_
          refine w_pure (p_eq (p := ps[k1]) (q := ps[i1]) rfl rfl) rfl rfl rfl ?_
          refine w_nil ?_
          refine q_then ?_
          refine c_cond (b := (ps[k1] == ps[i1])) rfl (fun hc9 => ?_) (fun hc9 => ?_)
          · simp only [beq_iff_eq] at hc9
            refine c_seq ?_
            refine c_region ?_
            refine o_pure (p_assign (v := .slice none 0 0) rfl) rfl rfl rfl ?_
            refine o_pure (p_assign (v := .int .i64 6) rfl) rfl rfl rfl ?_
            refine o_nil ?_
            refine q_then ?_
            refine c_ret ?_
            refine q_block_ret (q_then_ret (q_then_ret (q_block_ret (q_then_ret (q_block_ret (q_then_ret (q_then_ret (q_block_ret (q_then_ret ?_)))))))))
            obtain ⟨hv1, hv2⟩ : _ ∧ _ := by first | exact Rg.ad2 hck hwr | exact Rg.ad3 hck hri (Rg.twice_p (i := i1) (k := k1) hri hy1.1.fine (by omega) (by omega) (by assumption)) | exact Rg.ad3 hck hri (Rg.twice_l (i := i1) (k := k2) hri hy1.1.fine (by omega) (by omega) (by assumption)) | exact Rg.ref_many hck hri ht (by omega) | exact Rg.ref_done hck hri ht hal (by omega) hI (by omega)
            have hr0 : ([] : List DPoint) = (Rg.add l s ps) := by
              first | exact hv1.symm | exact hv2.symm
            have hr1 : (6 : Int) = (Rg.addErr l s ps) := by
              first | exact hv1.symm | exact hv2.symm
            refine q_endM (p := (none, 0)) (fun _ => False) (rt2 rfl (r_tmp rfl) (r_tmp rfl)) (i := 0) rfl ?_ ?_ ?_
            · exact (by have hcc := congr (congrArg (fun (y0 : List DPoint) (y1 : Int) => (.tuple #[.slice none y0.length 0, .int .i64 y1] : Value)) hr0) hr1; exact hcc)
            · intro w hw b hb; exact hb.elim
            · intro w hw; exact Eq.mp (congrArg (fun y => SlO tPoint _ w none 0 y) hr0) (SlO.nil tPoint w)
          · simp only [beq_eq_false_iff_ne, ne_eq] at hc9
            refine c_skip ?_
            refine q_block_normal (q_then ?_)
            refine c_region ?_
            refine o_pure (p_move (v := .int .i64 (k1 : Int)) rfl) rfl rfl rfl ?_
            refine o_pure (p_addb (p := (k1 : Int)) (q := 1) rfl rfl (by omega)) rfl rfl rfl ?_
            refine o_pure (p_assign (v := .int .i64 ((k1 : Int) + 1)) rfl) rfl rfl rfl ?_
            refine o_nil ?_
            refine q_round hK7 (k1 + 1) ?_ ?_ ?_ ?_
            · clear hK7
              exact ⟨by omega, hI.next (by omega) (by assumption)⟩
            · (try dsimp only); omega
            · exact Sub.cons rfl (Sub.cons rfl (Sub.cons rfl (Sub.cons rfl (Sub.cons rfl (Sub.nil _)))))
            · exact fun _ hw => HeapIs.pick hw [0] (by decide) rfl
        · simp only [decide_eq_false_iff_not, Int.not_lt] at hc8
          have hd1 := hI.done (by omega)
          refine c_exit ?_
          refine q_then_exit (q_then_exit (q_block_exit (q_then ?_)))
          refine c_seq ?_
          refine c_region ?_
          refine o_pure (p_assign (v := .int .i64 0) rfl) rfl rfl rfl ?_
          refine o_nil ?_
          refine q_then ?_
          refine c_block ?_
          refine c_loop (St := Nat)
            (fun k2 => [(0, .slice al l.length cl), (1, .int .i64 s), (2, .slice aps ps.length cps), (9, .int .i64 (i1 : Int)), (11, .int .i64 (k2 : Int))])
            (fun k2 => [base w0])
            (fun k2 => ∃ h : i1 < ps.length, Rg.GInv l ps[i1] k2)
            (fun k2 => l.length - k2)
            0 ?_ (Sub.cons rfl (Sub.cons rfl (Sub.cons rfl (Sub.cons rfl (Sub.cons rfl (Sub.nil _)))))) (fun _ hw => hw) ?_
          · exact ⟨by omega, Rg.GInv.start _ _⟩
          rintro k2 hI K hK10
          obtain ⟨hI0, hI⟩ := hI
          have hle3 := hI.1
          show SC _ _ Try.prog 142 w0 _ _ [(0, .slice al l.length cl), (1, .int .i64 s), (2, .slice aps ps.length cps), (9, .int .i64 (i1 : Int)), (11, .int .i64 (k2 : Int))] [base w0]
          refine c_seq ?_
          refine c_seq ?_
          refine c_region ?_
          refine o_pure (p_move (v := .int .i64 (k2 : Int)) rfl) rfl rfl rfl ?_
          refine o_pure (p_move (v := .slice al l.length cl) rfl) rfl rfl rfl ?_
          refine o_pure (p_len_slice (len := l.length) rfl rfl Try.underlying22) rfl rfl rfl ?_
          refine o_pure (p_lt (p := (k2 : Int)) (q := (l.length : Int)) rfl rfl) rfl rfl rfl ?_
          refine o_nil ?_
          refine q_then ?_
          refine c_cond (b := decide ((k2 : Int) < (l.length : Int))) rfl (fun hc11 => ?_) (fun hc11 => ?_)
          · simp only [decide_eq_true_eq] at hc11
            refine c_skip ?_
            refine q_then ?_
            refine c_seq ?_
            refine c_block ?_
            refine c_seq ?_
            refine c_draw hmix (by kernel_rfl) ?_
            refine w_pure (p_move (v := .slice al l.length cl) rfl) rfl rfl rfl ?_
            refine w_pure (p_move (v := .int .i64 (k2 : Int)) rfl) rfl rfl rfl ?_
            refine w_pure (p_indexAddr (L := l) (T := tPoint) (i := (k2 : Int)) rfl rfl (rd_base (i := 0) rfl hl) Try.underlying22 sz35 (by omega) (by omega)) rfl rfl rfl ?_
            refine w_pure (p_fieldAddrE rfl fo35_0) rfl rfl rfl ?_
            refine w_pure (p_loadF (i := k2) (j := 0) (T := tPoint) (L := l) (v := .int .i64 ((l[k2]).at_)) rfl (rd_base (i := 0) rfl hl) (by first | assumption | omega) sh3 rfl) rfl rfl rfl ?_
            refine w_pure (p_move (v := .slice aps ps.length cps) rfl) rfl rfl rfl ?_
            refine w_pure (p_move (v := .int .i64 (i1 : Int)) rfl) rfl rfl rfl ?_
            refine w_pure (p_indexAddr (L := ps) (T := tInt) (i := (i1 : Int)) rfl rfl (rd_base (i := 0) rfl hps) Try.underlying23 sz3 (by omega) (by omega)) rfl rfl rfl ?_
            refine w_pure (p_loadE1 (i := i1) (T := tInt) (L := ps) (v := .int .i64 (ps[i1])) rfl (rd_base (i := 0) rfl hps) (by first | assumption | omega) sh3 rfl) rfl rfl rfl ?_
            refine w_pure (p_eq (p := (l[k2]).at_) (q := ps[i1]) rfl rfl) rfl rfl rfl ?_
            refine w_nil ?_
            refine q_then ?_
            refine c_cond (b := ((l[k2]).at_ == ps[i1])) rfl (fun hc12 => ?_) (fun hc12 => ?_)
            · simp only [beq_iff_eq] at hc12
              refine c_seq ?_
              refine c_region ?_
              refine o_pure (p_assign (v := .slice none 0 0) rfl) rfl rfl rfl ?_
              refine o_pure (p_assign (v := .int .i64 6) rfl) rfl rfl rfl ?_
              refine o_nil ?_
              refine q_then ?_
              refine c_ret ?_
              refine q_block_ret (q_then_ret (q_then_ret (q_block_ret (q_block_ret (q_then_ret (q_then_ret (q_block_ret (q_then_ret ?_))))))))
              obtain ⟨hv1, hv2⟩ : _ ∧ _ := by first | exact Rg.ad2 hck hwr | exact Rg.ad3 hck hri (Rg.twice_p (i := i1) (k := k1) hri hy1.1.fine (by omega) (by omega) (by assumption)) | exact Rg.ad3 hck hri (Rg.twice_l (i := i1) (k := k2) hri hy1.1.fine (by omega) (by omega) (by assumption)) | exact Rg.ref_many hck hri ht (by omega) | exact Rg.ref_done hck hri ht hal (by omega) hI (by omega)
              have hr0 : ([] : List DPoint) = (Rg.add l s ps) := by
                first | exact hv1.symm | exact hv2.symm
              have hr1 : (6 : Int) = (Rg.addErr l s ps) := by
                first | exact hv1.symm | exact hv2.symm
              refine q_endM (p := (none, 0)) (fun _ => False) (rt2 rfl (r_tmp rfl) (r_tmp rfl)) (i := 0) rfl ?_ ?_ ?_
              · exact (by have hcc := congr (congrArg (fun (y0 : List DPoint) (y1 : Int) => (.tuple #[.slice none y0.length 0, .int .i64 y1] : Value)) hr0) hr1; exact hcc)
              · intro w hw b hb; exact hb.elim
              · intro w hw; exact Eq.mp (congrArg (fun y => SlO tPoint _ w none 0 y) hr0) (SlO.nil tPoint w)
            · simp only [beq_eq_false_iff_ne, ne_eq] at hc12
              refine c_skip ?_
              refine q_block_normal (q_then ?_)
              refine c_region ?_
              refine o_pure (p_move (v := .int .i64 (k2 : Int)) rfl) rfl rfl rfl ?_
              refine o_pure (p_addb (p := (k2 : Int)) (q := 1) rfl rfl (by omega)) rfl rfl rfl ?_
              refine o_pure (p_assign (v := .int .i64 ((k2 : Int) + 1)) rfl) rfl rfl rfl ?_
              refine o_nil ?_
              refine q_round hK10 (k2 + 1) ?_ ?_ ?_ ?_
              · clear hK10
                exact ⟨by omega, hI.next (by omega) (by assumption)⟩
              · (try dsimp only); omega
              · exact Sub.cons rfl (Sub.cons rfl (Sub.cons rfl (Sub.cons rfl (Sub.cons rfl (Sub.nil _)))))
              · exact fun _ hw => HeapIs.pick hw [0] (by decide) rfl
          · simp only [decide_eq_false_iff_not, Int.not_lt] at hc11
            refine c_exit ?_
            refine q_then_exit (q_then_exit (q_block_exit (q_block_normal (q_then ?_))))
            refine c_region ?_
            refine o_pure (p_move (v := .int .i64 (i1 : Int)) rfl) rfl rfl rfl ?_
            refine o_pure (p_addb (p := (i1 : Int)) (q := 1) rfl rfl (by omega)) rfl rfl rfl ?_
            refine o_pure (p_assign (v := .int .i64 ((i1 : Int) + 1)) rfl) rfl rfl rfl ?_
            refine o_nil ?_
            refine q_round hK5 (i1 + 1) ?_ ?_ ?_ ?_
            · clear hK5
              exact hD.next (by omega) hd1 (hI.done (by omega))
            · (try dsimp only); omega
            · exact Sub.cons rfl (Sub.cons rfl (Sub.cons rfl (Sub.cons rfl (Sub.nil _))))
            · exact fun _ hw => HeapIs.pick hw [0] (by decide) rfl
      · simp only [decide_eq_false_iff_not, Int.not_lt] at hc6
        obtain ⟨t, ht⟩ := hI.some (by omega) hri hy1.1.fine
        refine c_exit ?_
        refine q_then_exit (q_then_exit (q_block_exit (q_then ?_)))
        refine c_seq ?_
        refine c_seq ?_
        refine c_region ?_
        refine o_pure (p_move (v := .slice al l.length cl) rfl) rfl rfl rfl ?_
        refine o_pure (p_len_slice (len := l.length) rfl rfl Try.underlying22) rfl rfl rfl ?_
        refine o_pure (p_move (v := .slice aps ps.length cps) rfl) rfl rfl rfl ?_
        refine o_pure (p_len_slice (len := ps.length) rfl rfl Try.underlying23) rfl rfl rfl ?_
        refine o_pure (p_addb (p := (l.length : Int)) (q := (ps.length : Int)) rfl rfl (by omega)) rfl rfl rfl ?_
        refine o_pure (p_gt (p := ((l.length : Int) + (ps.length : Int))) (q := 60) rfl rfl) rfl rfl rfl ?_
        refine o_nil ?_
        refine q_then ?_
        refine c_cond (b := decide (60 < ((l.length : Int) + (ps.length : Int)))) rfl (fun hc13 => ?_) (fun hc13 => ?_)
        · simp only [decide_eq_true_eq] at hc13
          refine c_seq ?_
          refine c_region ?_
          refine o_pure (p_assign (v := .slice none 0 0) rfl) rfl rfl rfl ?_
          refine o_pure (p_assign (v := .int .i64 2) rfl) rfl rfl rfl ?_
          refine o_nil ?_
          refine q_then ?_
          refine c_ret ?_
          refine q_then_ret ?_
          obtain ⟨hv1, hv2⟩ : _ ∧ _ := by first | exact Rg.ad2 hck hwr | exact Rg.ad3 hck hri (Rg.twice_p (i := i1) (k := k1) hri hy1.1.fine (by omega) (by omega) (by assumption)) | exact Rg.ad3 hck hri (Rg.twice_l (i := i1) (k := k2) hri hy1.1.fine (by omega) (by omega) (by assumption)) | exact Rg.ref_many hck hri ht (by omega) | exact Rg.ref_done hck hri ht hal (by omega) hI (by omega)
          have hr0 : ([] : List DPoint) = (Rg.add l s ps) := by
            first | exact hv1.symm | exact hv2.symm
          have hr1 : (2 : Int) = (Rg.addErr l s ps) := by
            first | exact hv1.symm | exact hv2.symm
          refine q_endM (p := (none, 0)) (fun _ => False) (rt2 rfl (r_tmp rfl) (r_tmp rfl)) (i := 0) rfl ?_ ?_ ?_
          · exact (by have hcc := congr (congrArg (fun (y0 : List DPoint) (y1 : Int) => (.tuple #[.slice none y0.length 0, .int .i64 y1] : Value)) hr0) hr1; exact hcc)
          · intro w hw b hb; exact hb.elim
          · intro w hw; exact Eq.mp (congrArg (fun y => SlO tPoint _ w none 0 y) hr0) (SlO.nil tPoint w)
        · simp only [decide_eq_false_iff_not, Int.not_lt] at hc13
          refine c_skip ?_
          refine q_then ?_
          refine c_seq ?_
          refine c_region ?_
          refine o_buildSlice (m := 0) (T := tPoint) (L := []) (vs := []) rfl rfl rfl rfl Try.underlying22 sz35 (by decide) ze35 rfl (by decide) rfl (fun S14 a15 => ?_)
          refine o_pure (p_move (v := .slice al l.length cl) rfl) rfl rfl rfl ?_
          refine o_append (i := 0) (L := []) (M := l) (T := tPoint) rfl rfl rfl (rd_base (i := 1) rfl hl) Try.underlying22 Try.underlying22 (by intro k h; cases h) el35 (by intro z; simp [tPoint, one1]) (by decide) (by first | omega | (simp only [List.length_cons, List.length_nil]; omega) | (simp only [List.length_append, List.length_cons, List.length_nil, List.length_take, List.length_drop]; omega)) rfl (fun a17 c18 S19 => ?_)
          refine o_pure (p_assign (v := .slice a17 l.length c18) rfl) rfl rfl rfl ?_
          refine o_nil ?_
          refine q_then ?_
          refine c_seq ?_
          refine c_seq ?_
          refine c_region ?_
          refine o_pure (p_assign (v := .int .i64 0) rfl) rfl rfl rfl ?_
          refine o_nil ?_
          refine q_then ?_
          refine c_block ?_
          refine c_loop (St := List DPoint × Option Addr × Nat × (Nat → Prop) × Nat)
            (fun ⟨al, aal, cal, Sal, i2⟩ => [(1, .int .i64 s), (2, .slice aps ps.length cps), (12, .slice aal al.length cal), (13, .int .i64 (i2 : Int))])
            (fun ⟨al, aal, cal, Sal, i2⟩ => [own tPoint Sal aal cal al, base w0])
            (fun ⟨al, aal, cal, Sal, i2⟩ => i2 ≤ ps.length ∧ al = l ++ (ps.take i2).map fun a => (⟨a, s⟩ : DPoint))
            (fun ⟨al, aal, cal, Sal, i2⟩ => ps.length - i2)
            (l, a17, c18, S19, 0) ?_ (Sub.cons rfl (Sub.cons rfl (Sub.cons rfl (Sub.cons rfl (Sub.nil _))))) (fun _ hw => hw) ?_
          · exact ⟨Nat.zero_le _, by simp⟩
          rintro ⟨al, aal, cal, Sal, i2⟩ hI K hK20
          have hal0 : al.length = l.length + i2 := by rw [hI.2]; simp only [List.length_append, List.length_map, List.length_take]; omega
          show SC _ _ Try.prog 142 w0 _ _ [(1, .int .i64 s), (2, .slice aps ps.length cps), (12, .slice aal al.length cal), (13, .int .i64 (i2 : Int))] [own tPoint Sal aal cal al, base w0]
          refine c_seq ?_
          refine c_seq ?_
          refine c_region ?_
          refine o_pure (p_move (v := .int .i64 (i2 : Int)) rfl) rfl rfl rfl ?_
          refine o_pure (p_move (v := .slice aps ps.length cps) rfl) rfl rfl rfl ?_
          refine o_pure (p_len_slice (len := ps.length) rfl rfl Try.underlying23) rfl rfl rfl ?_
          refine o_pure (p_lt (p := (i2 : Int)) (q := (ps.length : Int)) rfl rfl) rfl rfl rfl ?_
          refine o_nil ?_
          refine q_then ?_
          refine c_cond (b := decide ((i2 : Int) < (ps.length : Int))) rfl (fun hc21 => ?_) (fun hc21 => ?_)
          · simp only [decide_eq_true_eq] at hc21
            refine c_skip ?_
            refine q_then ?_
            refine c_seq ?_
            refine c_block ?_
            refine c_region ?_
            refine o_pure (p_move (v := .slice aal al.length cal) rfl) rfl rfl rfl ?_
            refine o_pure (p_move (v := .slice aps ps.length cps) rfl) rfl rfl rfl ?_
            refine o_pure (p_move (v := .int .i64 (i2 : Int)) rfl) rfl rfl rfl ?_
            refine o_pure (p_indexAddr (L := ps) (T := tInt) (i := (i2 : Int)) rfl rfl (rd_base (i := 1) rfl hps) Try.underlying23 sz3 (by omega) (by omega)) rfl rfl rfl ?_
            refine o_pure (p_loadE1 (i := i2) (T := tInt) (L := ps) (v := .int .i64 (ps[i2])) rfl (rd_base (i := 1) rfl hps) (by first | assumption | omega) sh3 rfl) rfl rfl rfl ?_
            refine o_pure (p_move (v := .int .i64 s) rfl) rfl rfl rfl ?_
            refine o_pure (p_build (cells := [.int .i64 (ps[i2]), .int .i64 s]) fp35 ze35 rfl rfl) rfl rfl rfl ?_
            refine o_buildSlice (m := 1) (T := tPoint) (L := [(⟨ps[i2], s⟩ : DPoint)]) (vs := [.agg #[.int .i64 (ps[i2]), .int .i64 s]]) rfl rfl rfl rfl Try.underlying22 sz35 (by decide) ze35 rfl (by decide) rfl (fun S22 a23 => ?_)
            refine o_append (i := 1) (L := al) (M := [(⟨ps[i2], s⟩ : DPoint)]) (T := tPoint) rfl rfl rfl (rd_own (i := 0) rfl) Try.underlying22 Try.underlying22 (by intro k h; cases h) el35 (by intro z; simp [tPoint, one1]) (by decide) (by first | omega | (simp only [List.length_cons, List.length_nil]; omega) | (simp only [List.length_append, List.length_cons, List.length_nil, List.length_take, List.length_drop]; omega)) rfl (fun a25 c26 S27 => ?_)
            refine o_pure (p_assign (v := .slice a25 (al ++ [(⟨ps[i2], s⟩ : DPoint)]).length c26) rfl) rfl rfl rfl ?_
            refine o_nil ?_
            refine q_block_normal (q_then ?_)
            refine c_region ?_
            refine o_pure (p_move (v := .int .i64 (i2 : Int)) rfl) rfl rfl rfl ?_
            refine o_pure (p_addb (p := (i2 : Int)) (q := 1) rfl rfl (by omega)) rfl rfl rfl ?_
            refine o_pure (p_assign (v := .int .i64 ((i2 : Int) + 1)) rfl) rfl rfl rfl ?_
            refine o_nil ?_
            refine q_round hK20 ((al ++ [(⟨ps[i2], s⟩ : DPoint)]), a25, c26, S27, i2 + 1) ?_ ?_ ?_ ?_
            · clear hK20
              exact ⟨by omega, (congrArg (fun z => z ++ [_]) hI.2).trans (Rg.allP_next (by omega))⟩
            · (try dsimp only); omega
            · exact Sub.cons rfl (Sub.cons rfl (Sub.cons rfl (Sub.cons rfl (Sub.nil _))))
            · exact fun _ hw => HeapIs.pick hw [1, 2] (by decide) rfl
          · simp only [decide_eq_false_iff_not, Int.not_lt] at hc21
            have hal : al = Rg.allP l s ps := hI.2.trans (Rg.allP_done (by omega))
            obtain ⟨htf, htm, htl⟩ := Rg.ref_t hy1.1 hri ht hal
            refine c_exit ?_
            refine q_then_exit (q_then_exit (q_block_exit (q_then ?_)))
            refine c_seq ?_
            refine c_region ?_
            refine o_pure (p_assign (v := .slice none 0 0) rfl) rfl rfl rfl ?_
            refine o_nil ?_
            refine q_then ?_
            refine c_seq ?_
            refine c_region ?_
            refine o_pure (p_assign (v := .int .i64 (-1)) rfl) rfl rfl rfl ?_
            refine o_nil ?_
            refine q_then ?_
            refine c_seq ?_
            refine c_block ?_
            refine c_ownNil tPoint ?_
            refine c_loop (St := List DPoint × Option Addr × Nat × (Nat → Prop) × Int)
              (fun ⟨ol, aol, col, Sol, last⟩ => [(12, .slice aal al.length cal), (14, .slice aol ol.length col), (15, .int .i64 last)])
              (fun ⟨ol, aol, col, Sol, last⟩ => [own tPoint Sol aol col ol, own tPoint Sal aal cal al, base w0])
              (fun ⟨ol, aol, col, Sol, last⟩ => Rg.TInv t al ol last)
              (fun ⟨ol, aol, col, Sol, last⟩ => al.length - ol.length)
              ([], none, 0, (fun _ => False), (-1)) ?_ (Sub.cons rfl (Sub.cons rfl (Sub.cons rfl (Sub.nil _)))) (fun _ hw => hw) ?_
            · exact Rg.TInv.start _ _
            rintro ⟨ol, aol, col, Sol, last⟩ hI K hK29
            have hT := hI
            have holl := hI.le
            show SC _ _ Try.prog 142 w0 _ _ [(12, .slice aal al.length cal), (14, .slice aol ol.length col), (15, .int .i64 last)] [own tPoint Sol aol col ol, own tPoint Sal aal cal al, base w0]
            refine c_seq ?_
            refine c_seq ?_
            refine c_region ?_
            refine o_pure (p_move (v := .slice aol ol.length col) rfl) rfl rfl rfl ?_
            refine o_pure (p_len_slice (len := ol.length) rfl rfl Try.underlying22) rfl rfl rfl ?_
            refine o_pure (p_move (v := .slice aal al.length cal) rfl) rfl rfl rfl ?_
            refine o_pure (p_len_slice (len := al.length) rfl rfl Try.underlying22) rfl rfl rfl ?_
            refine o_pure (p_lt (p := (ol.length : Int)) (q := (al.length : Int)) rfl rfl) rfl rfl rfl ?_
            refine o_nil ?_
            refine q_then ?_
            refine c_cond (b := decide ((ol.length : Int) < (al.length : Int))) rfl (fun hc30 => ?_) (fun hc30 => ?_)
            · simp only [decide_eq_true_eq] at hc30
              refine c_skip ?_
              refine q_then ?_
              refine c_block ?_
              refine c_seq ?_
              refine c_region ?_
              refine o_pure (p_assign (v := .int .i64 (-1)) rfl) rfl rfl rfl ?_
              refine o_nil ?_
              refine q_then ?_
              refine c_seq ?_
              refine c_seq ?_
              refine c_region ?_
              refine o_pure (p_assign (v := .int .i64 0) rfl) rfl rfl rfl ?_
              refine o_nil ?_
              refine q_then ?_
              refine c_block ?_
              refine c_loop (St := Int × Nat)
                (fun ⟨best, i3⟩ => [(12, .slice aal al.length cal), (14, .slice aol ol.length col), (15, .int .i64 last), (16, .int .i64 best), (17, .int .i64 (i3 : Int))])
                (fun ⟨best, i3⟩ => [own tPoint Sol aol col ol, own tPoint Sal aal cal al, base w0])
                (fun ⟨best, i3⟩ => Rg.MInv al last best i3)
                (fun ⟨best, i3⟩ => al.length - i3)
                ((-1), 0) ?_ (Sub.cons rfl (Sub.cons rfl (Sub.cons rfl (Sub.cons rfl (Sub.cons rfl (Sub.nil _)))))) (fun _ hw => hw) ?_
              · exact Rg.MInv.start _ _
              rintro ⟨best, i3⟩ hI K hK31
              have hlo := hI.lo
              have hle6 := hI.le
              show SC _ _ Try.prog 142 w0 _ _ [(12, .slice aal al.length cal), (14, .slice aol ol.length col), (15, .int .i64 last), (16, .int .i64 best), (17, .int .i64 (i3 : Int))] [own tPoint Sol aol col ol, own tPoint Sal aal cal al, base w0]
              refine c_seq ?_
              refine c_seq ?_
              refine c_region ?_
              refine o_pure (p_move (v := .int .i64 (i3 : Int)) rfl) rfl rfl rfl ?_
              refine o_pure (p_move (v := .slice aal al.length cal) rfl) rfl rfl rfl ?_
              refine o_pure (p_len_slice (len := al.length) rfl rfl Try.underlying22) rfl rfl rfl ?_
              refine o_pure (p_lt (p := (i3 : Int)) (q := (al.length : Int)) rfl rfl) rfl rfl rfl ?_
              refine o_nil ?_
              refine q_then ?_
              refine c_cond (b := decide ((i3 : Int) < (al.length : Int))) rfl (fun hc32 => ?_) (fun hc32 => ?_)
              · simp only [decide_eq_true_eq] at hc32
                refine c_skip ?_
                refine q_then ?_
                refine c_seq ?_
                refine c_block ?_
                refine c_seq ?_
                refine c_draw hmix (by kernel_rfl) ?_
                refine w_pure (p_move (v := .slice aal al.length cal) rfl) rfl rfl rfl ?_
                refine w_pure (p_move (v := .int .i64 (i3 : Int)) rfl) rfl rfl rfl ?_
                refine w_pure (p_indexAddr (L := al) (T := tPoint) (i := (i3 : Int)) rfl rfl (rd_own (i := 1) rfl) Try.underlying22 sz35 (by omega) (by omega)) rfl rfl rfl ?_
                refine w_pure (p_fieldAddrE rfl fo35_0) rfl rfl rfl ?_
                refine w_pure (p_loadF (i := i3) (j := 0) (T := tPoint) (L := al) (v := .int .i64 ((al[i3]).at_)) rfl (rd_own (i := 1) rfl) (by first | assumption | omega) sh3 rfl) rfl rfl rfl ?_
                refine w_pure (p_move (v := .int .i64 last) rfl) rfl rfl rfl ?_
                refine w_pure (p_gt (p := (al[i3]).at_) (q := last) rfl rfl) rfl rfl rfl ?_
                refine w_pure (p_move (v := .bool (decide (last < (al[i3]).at_))) rfl) rfl rfl rfl ?_
                refine w_and (p := 127) 16 (decide (best < 0) || decide ((al[i3]).at_ < (al[best.toNat]).at_)) ?_ ?_ ?_
                · intro hb33 hk
                  simp only [decide_eq_true_eq] at hb33
                  refine w_unguard 111 rfl rfl ?_
                  refine w_pure (p_move (v := .int .i64 best) rfl) rfl rfl rfl ?_
                  refine w_unguard 111 rfl rfl ?_
                  refine w_pure (p_lt (p := best) (q := 0) rfl rfl) rfl rfl rfl ?_
                  refine w_unguard 111 rfl rfl ?_
                  refine w_pure (p_move (v := .bool (decide (best < 0))) rfl) rfl rfl rfl ?_
                  refine w_or (p := 126) 12 (decide ((al[i3]).at_ < (al[best.toNat]).at_)) ?_ ?_ ?_
                  · intro hb34 hk
                    simp only [decide_eq_false_iff_not, Int.not_lt] at hb34
                    refine w_unguard 114 rfl rfl ?_
                    refine w_pure (p_move (v := .slice aal al.length cal) rfl) rfl rfl rfl ?_
                    refine w_unguard 114 rfl rfl ?_
                    refine w_pure (p_move (v := .int .i64 (i3 : Int)) rfl) rfl rfl rfl ?_
                    refine w_unguard 114 rfl rfl ?_
                    refine w_pure (p_indexAddr (L := al) (T := tPoint) (i := (i3 : Int)) rfl rfl (rd_own (i := 1) rfl) Try.underlying22 sz35 (by omega) (by omega)) rfl rfl rfl ?_
                    refine w_unguard 114 rfl rfl ?_
                    refine w_pure (p_fieldAddrE rfl fo35_0) rfl rfl rfl ?_
                    refine w_unguard 114 rfl rfl ?_
                    refine w_pure (p_loadF (i := i3) (j := 0) (T := tPoint) (L := al) (v := .int .i64 ((al[i3]).at_)) rfl (rd_own (i := 1) rfl) (by first | assumption | omega) sh3 rfl) rfl rfl rfl ?_
                    refine w_unguard 114 rfl rfl ?_
                    refine w_pure (p_move (v := .slice aal al.length cal) rfl) rfl rfl rfl ?_
                    refine w_unguard 114 rfl rfl ?_
                    refine w_pure (p_move (v := .int .i64 best) rfl) rfl rfl rfl ?_
                    refine w_unguard 114 rfl rfl ?_
                    refine w_pure (p_indexAddr (L := al) (T := tPoint) (i := best) rfl rfl (rd_own (i := 1) rfl) Try.underlying22 sz35 (by omega) (by omega)) rfl rfl rfl ?_
                    refine w_unguard 114 rfl rfl ?_
                    refine w_pure (p_fieldAddrE rfl fo35_0) rfl rfl rfl ?_
                    refine w_unguard 114 rfl rfl ?_
                    refine w_pure (p_loadF (i := best.toNat) (j := 0) (T := tPoint) (L := al) (v := .int .i64 ((al[best.toNat]).at_)) rfl (rd_own (i := 1) rfl) (by first | assumption | omega) sh3 rfl) rfl rfl rfl ?_
                    refine w_unguard 114 rfl rfl ?_
                    refine w_pure (p_lt (p := (al[i3]).at_) (q := (al[best.toNat]).at_) rfl rfl) rfl rfl rfl ?_
                    refine w_unguard 111 rfl rfl ?_
                    refine w_pure (p_pick_false (v := .bool (decide ((al[i3]).at_ < (al[best.toNat]).at_))) rfl rfl) rfl rfl rfl ?_
                    exact w_sub (Sub.cons rfl (Sub.skip rfl (Sub.skip rfl (Sub.skip rfl (Sub.skip rfl (Sub.skip rfl (Sub.skip rfl (Sub.skip rfl (Sub.skip rfl (Sub.skip rfl (Sub.skip rfl (Sub.skip rfl (Sub.skip rfl (Sub.skip rfl (Sub.refl _))))))))))))))) hk
                  · intro hb34 hk
                    refine w_guard_no rfl 114 rfl rfl rfl rfl rfl ?_
                    refine w_guard_no rfl 114 rfl rfl rfl rfl rfl ?_
                    refine w_guard_no rfl 114 rfl rfl rfl rfl rfl ?_
                    refine w_guard_no rfl 114 rfl rfl rfl rfl rfl ?_
                    refine w_guard_no rfl 114 rfl rfl rfl rfl rfl ?_
                    refine w_guard_no rfl 114 rfl rfl rfl rfl rfl ?_
                    refine w_guard_no rfl 114 rfl rfl rfl rfl rfl ?_
                    refine w_guard_no rfl 114 rfl rfl rfl rfl rfl ?_
                    refine w_guard_no rfl 114 rfl rfl rfl rfl rfl ?_
                    refine w_guard_no rfl 114 rfl rfl rfl rfl rfl ?_
                    refine w_guard_no rfl 114 rfl rfl rfl rfl rfl ?_
                    refine w_unguard 111 rfl rfl ?_
                    refine w_pure (p_pick_true (u := .bool true) rfl rfl) rfl rfl rfl ?_
                    exact w_sub (Sub.cons rfl (Sub.skip rfl (Sub.skip rfl (Sub.skip rfl (Sub.skip rfl (Sub.skip rfl (Sub.skip rfl (Sub.skip rfl (Sub.skip rfl (Sub.skip rfl (Sub.skip rfl (Sub.skip rfl (Sub.skip rfl (Sub.skip rfl (Sub.refl _))))))))))))))) hk
                  refine w_pure (p_pick_true (u := .bool (decide (best < 0) || decide ((al[i3]).at_ < (al[best.toNat]).at_))) rfl rfl) rfl rfl rfl ?_
                  exact w_sub (Sub.cons rfl (Sub.skip rfl (Sub.skip rfl (Sub.skip rfl (Sub.skip rfl (Sub.skip rfl (Sub.refl _))))))) hk
                · intro hb33 hk
                  refine w_guard_no rfl 111 rfl rfl rfl rfl rfl ?_
                  refine w_guard_no rfl 111 rfl rfl rfl rfl rfl ?_
                  refine w_guard_no rfl 111 rfl rfl rfl rfl rfl ?_
                  refine w_guard_no rfl 114 rfl rfl rfl rfl rfl ?_
                  refine w_guard_no rfl 114 rfl rfl rfl rfl rfl ?_
                  refine w_guard_no rfl 114 rfl rfl rfl rfl rfl ?_
                  refine w_guard_no rfl 114 rfl rfl rfl rfl rfl ?_
                  refine w_guard_no rfl 114 rfl rfl rfl rfl rfl ?_
                  refine w_guard_no rfl 114 rfl rfl rfl rfl rfl ?_
                  refine w_guard_no rfl 114 rfl rfl rfl rfl rfl ?_
                  refine w_guard_no rfl 114 rfl rfl rfl rfl rfl ?_
                  refine w_guard_no rfl 114 rfl rfl rfl rfl rfl ?_
                  refine w_guard_no rfl 114 rfl rfl rfl rfl rfl ?_
                  refine w_guard_no rfl 114 rfl rfl rfl rfl rfl ?_
                  refine w_guard_no rfl 111 rfl rfl rfl rfl rfl ?_
                  refine w_pure (p_pick_false (v := .bool false) rfl rfl) rfl rfl rfl ?_
                  exact w_sub (Sub.cons rfl (Sub.skip rfl (Sub.skip rfl (Sub.skip rfl (Sub.skip rfl (Sub.skip rfl (Sub.skip rfl (Sub.skip rfl (Sub.skip rfl (Sub.skip rfl (Sub.skip rfl (Sub.skip rfl (Sub.skip rfl (Sub.skip rfl (Sub.skip rfl (Sub.skip rfl (Sub.skip rfl (Sub.skip rfl (Sub.refl _))))))))))))))))))) hk
                refine w_nil ?_
                refine q_then ?_
                refine c_cond (b := (decide (last < (al[i3]).at_) && (decide (best < 0) || decide ((al[i3]).at_ < (al[best.toNat]).at_)))) rfl (fun hc35 => ?_) (fun hc35 => ?_)
                · simp only [Bool.and_eq_true, decide_eq_true_eq, Bool.or_eq_true] at hc35
                  have hpk := hc35
                  refine c_region ?_
                  refine o_pure (p_move (v := .int .i64 (i3 : Int)) rfl) rfl rfl rfl ?_
                  refine o_pure (p_assign (v := .int .i64 (i3 : Int)) rfl) rfl rfl rfl ?_
                  refine o_nil ?_
                  refine q_block_normal (q_then ?_)
                  refine c_region ?_
                  refine o_pure (p_move (v := .int .i64 (i3 : Int)) rfl) rfl rfl rfl ?_
                  refine o_pure (p_addb (p := (i3 : Int)) (q := 1) rfl rfl (by omega)) rfl rfl rfl ?_
                  refine o_pure (p_assign (v := .int .i64 ((i3 : Int) + 1)) rfl) rfl rfl rfl ?_
                  refine o_nil ?_
                  refine q_round hK31 ((i3 : Int), i3 + 1) ?_ ?_ ?_ ?_
                  · clear hK31
                    first | exact hI.take_ (by omega) hpk.1 (hpk.2.imp id fun h => ⟨by omega, h⟩) | exact hI.skip (by omega) (hpk.imp id fun h => ⟨h.1, by omega, h.2⟩)
                  · (try dsimp only); omega
                  · exact Sub.cons rfl (Sub.cons rfl (Sub.cons rfl (Sub.cons rfl (Sub.cons rfl (Sub.nil _)))))
                  · exact fun _ hw => HeapIs.pick hw [0, 1, 2] (by decide) rfl
                · simp only [Bool.and_eq_false_iff, decide_eq_false_iff_not, Int.not_lt, Bool.or_eq_false_iff] at hc35
                  have hpk := hc35
                  refine c_skip ?_
                  refine q_block_normal (q_then ?_)
                  refine c_region ?_
                  refine o_pure (p_move (v := .int .i64 (i3 : Int)) rfl) rfl rfl rfl ?_
                  refine o_pure (p_addb (p := (i3 : Int)) (q := 1) rfl rfl (by omega)) rfl rfl rfl ?_
                  refine o_pure (p_assign (v := .int .i64 ((i3 : Int) + 1)) rfl) rfl rfl rfl ?_
                  refine o_nil ?_
                  refine q_round hK31 (best, i3 + 1) ?_ ?_ ?_ ?_
                  · clear hK31
                    first | exact hI.take_ (by omega) hpk.1 (hpk.2.imp id fun h => ⟨by omega, h⟩) | exact hI.skip (by omega) (hpk.imp id fun h => ⟨h.1, by omega, h.2⟩)
                  · (try dsimp only); omega
                  · exact Sub.cons rfl (Sub.cons rfl (Sub.cons rfl (Sub.cons rfl (Sub.cons rfl (Sub.nil _)))))
                  · exact fun _ hw => HeapIs.pick hw [0, 1, 2] (by decide) rfl
              · simp only [decide_eq_false_iff_not, Int.not_lt] at hc32
                obtain ⟨hb0, hb1, hb2⟩ := hT.pick htf htm (by omega) hI (by omega)
                refine c_exit ?_
                refine q_then_exit (q_then_exit (q_block_exit (q_then ?_)))
                refine c_seq ?_
                refine c_region ?_
                refine o_pure (p_move (v := .slice aol ol.length col) rfl) rfl rfl rfl ?_
                refine o_pure (p_move (v := .slice aal al.length cal) rfl) rfl rfl rfl ?_
                refine o_pure (p_move (v := .int .i64 best) rfl) rfl rfl rfl ?_
                refine o_pure (p_indexAddr (L := al) (T := tPoint) (i := best) rfl rfl (rd_own (i := 1) rfl) Try.underlying22 sz35 (by omega) (by omega)) rfl rfl rfl ?_
                refine o_pure (p_loadEn (i := best.toNat) (T := tPoint) (L := al) (vs := [.int .i64 ((al[best.toNat]).at_), .int .i64 ((al[best.toNat]).shard)]) rfl (rd_own (i := 1) rfl) (by first | assumption | omega) sh35 rfl) rfl rfl rfl ?_
                refine o_buildSlice (m := 1) (T := tPoint) (L := [(⟨(al[best.toNat]).at_, (al[best.toNat]).shard⟩ : DPoint)]) (vs := [.agg #[.int .i64 ((al[best.toNat]).at_), .int .i64 ((al[best.toNat]).shard)]]) rfl rfl rfl rfl Try.underlying22 sz35 (by decide) ze35 rfl (by decide) rfl (fun S36 a37 => ?_)
                refine o_append (i := 1) (L := ol) (M := [(⟨(al[best.toNat]).at_, (al[best.toNat]).shard⟩ : DPoint)]) (T := tPoint) rfl rfl rfl (rd_own (i := 0) rfl) Try.underlying22 Try.underlying22 (by intro k h; cases h) el35 (by intro z; simp [tPoint, one1]) (by decide) (by first | omega | (simp only [List.length_cons, List.length_nil]; omega) | (simp only [List.length_append, List.length_cons, List.length_nil, List.length_take, List.length_drop]; omega)) rfl (fun a39 c40 S41 => ?_)
                refine o_pure (p_assign (v := .slice a39 (ol ++ [(⟨(al[best.toNat]).at_, (al[best.toNat]).shard⟩ : DPoint)]).length c40) rfl) rfl rfl rfl ?_
                refine o_nil ?_
                refine q_then ?_
                refine c_region ?_
                refine o_pure (p_move (v := .slice aal al.length cal) rfl) rfl rfl rfl ?_
                refine o_pure (p_move (v := .int .i64 best) rfl) rfl rfl rfl ?_
                refine o_pure (p_indexAddr (L := al) (T := tPoint) (i := best) rfl rfl (rd_own (i := 2) rfl) Try.underlying22 sz35 (by omega) (by omega)) rfl rfl rfl ?_
                refine o_pure (p_fieldAddrE rfl fo35_0) rfl rfl rfl ?_
                refine o_pure (p_loadF (i := best.toNat) (j := 0) (T := tPoint) (L := al) (v := .int .i64 ((al[best.toNat]).at_)) rfl (rd_own (i := 2) rfl) (by first | assumption | omega) sh3 rfl) rfl rfl rfl ?_
                refine o_pure (p_assign (v := .int .i64 ((al[best.toNat]).at_)) rfl) rfl rfl rfl ?_
                refine o_nil ?_
                refine q_block_normal ?_
                refine q_round hK29 ((ol ++ [(⟨(al[best.toNat]).at_, (al[best.toNat]).shard⟩ : DPoint)]), a39, c40, S41, (al[best.toNat]).at_) ?_ ?_ ?_ ?_
                · clear hK29
                  exact hT.next (by omega) hb2
                · (try simp only [List.length_append, List.length_cons, List.length_nil]); omega
                · exact Sub.cons rfl (Sub.cons rfl (Sub.cons rfl (Sub.nil _)))
                · exact fun _ hw => HeapIs.pick hw [1, 2, 3] (by decide) rfl
            · simp only [decide_eq_false_iff_not, Int.not_lt] at hc30
              refine c_exit ?_
              refine q_then_exit (q_then_exit (q_block_exit (q_then ?_)))
              refine c_seq ?_
              refine c_region ?_
              refine o_pure (p_move (v := .slice aol ol.length col) rfl) rfl rfl rfl ?_
              refine o_pure (p_assign (v := .slice aol ol.length col) rfl) rfl rfl rfl ?_
              refine o_pure (p_assign (v := .int .i64 0) rfl) rfl rfl rfl ?_
              refine o_nil ?_
              refine q_then ?_
              refine c_ret ?_
              obtain ⟨hv1, hv2⟩ : _ ∧ _ := by first | exact Rg.ad2 hck hwr | exact Rg.ad3 hck hri (Rg.twice_p (i := i1) (k := k1) hri hy1.1.fine (by omega) (by omega) (by assumption)) | exact Rg.ad3 hck hri (Rg.twice_l (i := i1) (k := k2) hri hy1.1.fine (by omega) (by omega) (by assumption)) | exact Rg.ref_many hck hri ht (by omega) | exact Rg.ref_done hck hri ht hal (by omega) hI (by omega)
              have hr0 : (ol : List DPoint) = (Rg.add l s ps) := by
                first | exact hv1.symm | exact hv2.symm
              have hr1 : (0 : Int) = (Rg.addErr l s ps) := by
                first | exact hv1.symm | exact hv2.symm
              refine q_endM (p := (aol, col)) Sol (rt2 rfl (r_tmp rfl) (r_tmp rfl)) (i := 2) rfl ?_ ?_ ?_
              · exact (by have hcc := congr (congrArg (fun (y0 : List DPoint) (y1 : Int) => (.tuple #[.slice aol y0.length col, .int .i64 y1] : Value)) hr0) hr1; exact hcc)
              · exact fun w hw => hw.above (i := 2) (j := 0) (by decide) rfl rfl
              · intro w hw; exact Eq.mp (congrArg (fun y => SlO tPoint _ w aol col y) hr0) ((hw.at (i := 0) rfl).here)
end Go.Proofs.Ytgjdmnljnimamaa
