/- The walks, printed by a program from the translation and a specification. -/
import Derived.Test.YtgjdmnljnimamaaRgF
import Derived.Test.YtgjdmnljnimamaaRgLaw3
import Derived.Test.YtgjdmnljnimamaaRgW1
import Derived.Test.YtgjdmnljnimamaaRgW3
namespace Go.Proofs.Ytgjdmnljnimamaa
open Go.Sx Go.RowKit
set_option maxHeartbeats 8000000 in
set_option maxRecDepth 100000 in
theorem rremove1_ok (p : DPoint) (Bq : Nat) (s : Int) : Fn0 Try.prog 56 [.agg #[.int .i64 p.at_, .int .i64 p.shard], .pointer (some ⟨Bq, 0, none⟩)] (fun w => (box Bq [.int .i64 s] 3).A w) (.bool (p.shard == s)) := by
  refine fn0 (nt := 8) (F0 := [(0, .agg #[.int .i64 p.at_, .int .i64 p.shard]), (1, .pointer (some ⟨Bq, 0, none⟩))]) Try.func56 rfl Try.ntmps56 rfl rfl (fun w0 hpre => ?_)
  have hBq := hpre
  refine c_seq ?_
  refine c_region ?_
  refine o_box (v := .agg #[.int .i64 p.at_, .int .i64 p.shard]) rfl rfl (fun B1 => ?_)
  refine o_pure (p_assign (v := .bool false) rfl) rfl rfl rfl ?_
  refine o_nil ?_
  refine q_then ?_
  refine c_seq ?_
  refine c_region ?_
  refine o_pure (p_fieldAddr (B := B1) (j := 0) (j' := 1) rfl fo35_1 rfl) rfl rfl rfl ?_
  refine o_pure (p_load (i := 0) (v := .int .i64 p.shard) rfl rfl sh3 rfl) rfl rfl rfl ?_
  refine o_pure (p_loadR (v := .int .i64 s) rfl (rbox_base (i := 1) rfl hBq) sh3 rfl) rfl rfl rfl ?_
  refine o_pure (p_eq (p := p.shard) (q := s) rfl rfl) rfl rfl rfl ?_
  refine o_pure (p_assign (v := .bool (p.shard == s)) rfl) rfl rfl rfl ?_
  refine o_nil ?_
  refine q_then ?_
  refine c_ret ?_
  refine q_end0 (v := .bool (p.shard == s)) (rt1 rfl (r_tmp rfl)) (i := 1) rfl ?_
  exact rfl

set_option maxHeartbeats 8000000 in
set_option maxRecDepth 100000 in
theorem deleteFunc_point_ok (l : List DPoint) (al : Option Addr) (cl : Nat) (Sl : Nat → Prop) (Bq : Nat) (s : Int) : FnX Try.prog 55 [.slice al l.length cl, .func (.func 56) #[] #[.pointer (some ⟨Bq, 0, none⟩)]] [own tPoint Sl al cl l] (fun w => ((box Bq [.int .i64 s] 3).A w ∧ (outer w [own tPoint Sl al cl l]).S Bq)) (Option Addr × Nat × (Nat → Prop)) (fun p => .slice p.1 (Rg.dropS l s).length p.2.1) (fun p => [own tPoint p.2.2 p.1 p.2.1 (Rg.dropS l s)]) := by
  refine fnX (nt := 42) (F0 := [(0, .slice al l.length cl), (1, .func (.func 56) #[] #[.pointer (some ⟨Bq, 0, none⟩)])]) Try.func55 rfl Try.ntmps55 rfl rfl (fun w0 hpre => ?_)
  have hBq := hpre
  refine c_know (fun w hw => own_len (i := 1) (T := tPoint) hw rfl) (fun hlown_l => ?_)
  obtain ⟨hcown_l, hlown_l⟩ := hlown_l
  refine c_seq ?_
  refine c_region ?_
  refine o_pure (p_assign (v := .slice none 0 0) rfl) rfl rfl rfl ?_
  refine o_nil ?_
  refine q_then ?_
  refine c_seq ?_
  refine c_region ?_
  refine o_pure (p_move (v := .slice al l.length cl) rfl) rfl rfl rfl ?_
  refine o_pure (p_move (v := .func (.func 56) #[] #[.pointer (some ⟨Bq, 0, none⟩)]) rfl) rfl rfl rfl ?_
  refine o_call0 (v := .int .i64 (idxF (fun x : DPoint => (x.shard == s)) l)) rfl (indexFunc_Point_ok l al cl 56 [.pointer (some ⟨Bq, 0, none⟩)] (fun x => (x.shard == s)) (fun w => (box Bq [.int .i64 s] 3).A w) (fun _ _ hb h => box_below hb h) (fun x => rremove1_ok x Bq s) hf56) hf85 (fun w hw => ⟨(rd_own (i := 1) rfl) w hw, rbox_outer (i := 0) rfl hBq w hw⟩) rfl ?_
  refine o_pure (p_assign (v := .int .i64 (idxF (fun x : DPoint => (x.shard == s)) l)) rfl) rfl rfl rfl ?_
  refine o_nil ?_
  refine q_then ?_
  refine c_seq ?_
  refine c_seq ?_
  refine c_region ?_
  refine o_pure (p_move (v := .int .i64 (idxF (fun x : DPoint => (x.shard == s)) l)) rfl) rfl rfl rfl ?_
  refine o_pure (p_eq (p := (idxF (fun x : DPoint => (x.shard == s)) l)) (q := (-1)) rfl rfl) rfl rfl rfl ?_
  refine o_nil ?_
  refine q_then ?_
  refine c_cond (b := ((idxF (fun x : DPoint => (x.shard == s)) l) == (-1))) rfl (fun hc1 => ?_) (fun hc1 => ?_)
  · simp only [beq_iff_eq] at hc1
    have hno := hc1
    refine c_seq ?_
    refine c_region ?_
    refine o_pure (p_move (v := .slice al l.length cl) rfl) rfl rfl rfl ?_
    refine o_pure (p_assign (v := .slice al l.length cl) rfl) rfl rfl rfl ?_
    refine o_nil ?_
    refine q_then ?_
    refine c_ret ?_
    refine q_then_ret ?_
    have hr0 : (l : List DPoint) = (Rg.dropS l s) := by
      first | exact hI.done (by omega) | exact (Rg.keep_all hno).symm
    refine q_endX (p := (al, cl, Sl)) (rt1 rfl (r_tmp rfl)) ?_ (fun w hw => ?_)
    · exact (by have hcc := congrArg (fun (y0 : List DPoint) => (.slice al y0.length cl : Value)) hr0; exact hcc)
    · have h2 := hw.pick (H' := [outer w0 [own tPoint Sl al cl l], own tPoint Sl al cl l]) [0, 1] (by decide) rfl
      exact Eq.mp (congrArg (fun z => HeapIs w0 ((outer w0 [own tPoint Sl al cl l]) :: z) w) ((by have hcc := congrArg (fun (y0 : List DPoint) => ([own tPoint Sl al cl y0] : List Ent)) hr0; exact hcc))) h2
  · simp only [beq_eq_false_iff_ne, ne_eq] at hc1
    have hix := idxF_lt (fun x : DPoint => (x.shard == s)) l
    refine c_skip ?_
    refine q_then ?_
    refine c_seq ?_
    refine c_seq ?_
    refine c_region ?_
    refine o_pure (p_move (v := .int .i64 (idxF (fun x : DPoint => (x.shard == s)) l)) rfl) rfl rfl rfl ?_
    refine o_pure (p_addb (p := (idxF (fun x : DPoint => (x.shard == s)) l)) (q := 1) rfl rfl (by omega)) rfl rfl rfl ?_
    refine o_pure (p_assign (v := .int .i64 ((idxF (fun x : DPoint => (x.shard == s)) l) + 1)) rfl) rfl rfl rfl ?_
    refine o_nil ?_
    refine q_then ?_
    refine c_block ?_
    refine c_loop (St := Int × Int × List DPoint)
      (fun ⟨i, j, ls⟩ => [(0, .slice al ls.length cl), (1, .func (.func 56) #[] #[.pointer (some ⟨Bq, 0, none⟩)]), (5, .int .i64 i), (6, .int .i64 j)])
      (fun ⟨i, j, ls⟩ => [outer w0 [own tPoint Sl al cl l], own tPoint Sl al cl ls])
      (fun ⟨i, j, ls⟩ => DelI (fun x : DPoint => (x.shard == s)) l ls i j)
      (fun ⟨i, j, ls⟩ => ((l.length : Int) - j).toNat)
      ((idxF (fun x : DPoint => (x.shard == s)) l), ((idxF (fun x : DPoint => (x.shard == s)) l) + 1), l) ?_ (Sub.cons rfl (Sub.cons rfl (Sub.cons rfl (Sub.cons rfl (Sub.nil _))))) (fun _ hw => hw) ?_
    · exact DelI.start (by omega)
    rintro ⟨i, j, ls⟩ hI K hK2
    have hl1 := hI.len
    have hi0 := hI.i0
    have hij := hI.ij
    have hjl := hI.jl
    have hil := hI.le
    show SC _ _ Try.prog 42 w0 _ _ [(0, .slice al ls.length cl), (1, .func (.func 56) #[] #[.pointer (some ⟨Bq, 0, none⟩)]), (5, .int .i64 i), (6, .int .i64 j)] [outer w0 [own tPoint Sl al cl l], own tPoint Sl al cl ls]
    refine c_seq ?_
    refine c_seq ?_
    refine c_region ?_
    refine o_pure (p_move (v := .int .i64 j) rfl) rfl rfl rfl ?_
    refine o_pure (p_move (v := .slice al ls.length cl) rfl) rfl rfl rfl ?_
    refine o_pure (p_len_slice (len := ls.length) rfl rfl Try.underlying22) rfl rfl rfl ?_
    refine o_pure (p_lt (p := j) (q := (ls.length : Int)) rfl rfl) rfl rfl rfl ?_
    refine o_nil ?_
    refine q_then ?_
    refine c_cond (b := decide (j < (ls.length : Int))) rfl (fun hc3 => ?_) (fun hc3 => ?_)
    · simp only [decide_eq_true_eq] at hc3
      refine c_skip ?_
      refine q_then ?_
      refine c_seq ?_
      refine c_block ?_
      refine c_seq ?_
      refine c_region ?_
      refine o_pure (p_move (v := .slice al ls.length cl) rfl) rfl rfl rfl ?_
      refine o_pure (p_move (v := .int .i64 j) rfl) rfl rfl rfl ?_
      refine o_pure (p_indexAddr (L := ls) (T := tPoint) (i := j) rfl rfl (rd_own (i := 1) rfl) Try.underlying22 sz35 (by omega) (by omega)) rfl rfl rfl ?_
      refine o_pure (p_loadEn (i := j.toNat) (T := tPoint) (L := ls) (vs := [.int .i64 ((ls[j.toNat]).at_), .int .i64 ((ls[j.toNat]).shard)]) rfl (rd_own (i := 1) rfl) (by first | assumption | omega) sh35 rfl) rfl rfl rfl ?_
      refine o_alloc ze35 rfl (fun B4 => ?_)
      refine o_storeN (i := 0) (vs := [.int .i64 ((ls[j.toNat]).at_), .int .i64 ((ls[j.toNat]).shard)]) (cs' := [.int .i64 ((ls[j.toNat]).at_), .int .i64 ((ls[j.toNat]).shard)]) rfl rfl rfl sz35 rfl rfl rfl rfl ?_
      refine o_nil ?_
      refine q_then ?_
      refine c_seq ?_
      refine c_region ?_
      refine o_pure (p_move (v := .func (.func 56) #[] #[.pointer (some ⟨Bq, 0, none⟩)]) rfl) rfl rfl rfl ?_
      refine o_pure (p_load_agg (i := 0) (vs := [.int .i64 ((ls[j.toNat]).at_), .int .i64 ((ls[j.toNat]).shard)]) rfl rfl sh35 rfl rfl) rfl rfl rfl ?_
      refine o_call0V (vs := [.agg #[.int .i64 ((ls[j.toNat]).at_), .int .i64 ((ls[j.toNat]).shard)]]) (caps := [.pointer (some ⟨Bq, 0, none⟩)]) (v := .bool ((ls[j.toNat]).shard == s)) rfl rfl (rremove1_ok (ls[j.toNat]) Bq s) hf56 (fun w hw => rbox_outer (i := 1) rfl hBq w hw) rfl ?_
      refine o_pure (p_not (b := ((ls[j.toNat]).shard == s)) rfl) rfl rfl rfl ?_
      refine o_nil ?_
      refine q_then ?_
      refine c_cond (b := (!((ls[j.toNat]).shard == s))) rfl (fun hc5 => ?_) (fun hc5 => ?_)
      · simp only [Bool.not_eq_true', beq_eq_false_iff_ne, ne_eq] at hc5
        refine c_seq ?_
        refine c_region ?_
        refine o_pure (p_move (v := .slice al ls.length cl) rfl) rfl rfl rfl ?_
        refine o_pure (p_move (v := .int .i64 i) rfl) rfl rfl rfl ?_
        refine o_pure (p_load_agg (i := 0) (vs := [.int .i64 ((ls[j.toNat]).at_), .int .i64 ((ls[j.toNat]).shard)]) rfl rfl sh35 rfl rfl) rfl rfl rfl ?_
        refine o_pure (p_indexAddr (L := ls) (T := tPoint) (i := i) rfl rfl (rd_own (i := 2) rfl) Try.underlying22 sz35 (by omega) (by omega)) rfl rfl rfl ?_
        refine o_storeW (i := 2) (T := tPoint) (idx := i.toNat) (v := .agg #[.int .i64 ((ls[j.toNat]).at_), .int .i64 ((ls[j.toNat]).shard)]) (vs := [.int .i64 ((ls[j.toNat]).at_), .int .i64 ((ls[j.toNat]).shard)]) (z := (ls[j.toNat])) (F' := [(0, .slice al (ls.set i.toNat (ls[j.toNat])).length cl), (1, .func (.func 56) #[] #[.pointer (some ⟨Bq, 0, none⟩)]), (5, .int .i64 i), (6, .int .i64 j)]) rfl rfl rfl rfl (by first | assumption | omega | (simp only [List.length_set]; omega)) sz35 rfl rfl rfl rfl (Sub.cons (by simp only [List.length_set]; rfl) (Sub.cons rfl (Sub.cons rfl (Sub.cons rfl (Sub.nil _))))) ?_
        refine o_nil ?_
        refine q_then ?_
        refine c_region ?_
        refine o_pure (p_move (v := .int .i64 i) rfl) rfl rfl rfl ?_
        refine o_pure (p_addb (p := i) (q := 1) rfl rfl (by omega)) rfl rfl rfl ?_
        refine o_pure (p_assign (v := .int .i64 (i + 1)) rfl) rfl rfl rfl ?_
        refine o_nil ?_
        refine q_block_normal (q_then ?_)
        refine c_region ?_
        refine o_pure (p_move (v := .int .i64 j) rfl) rfl rfl rfl ?_
        refine o_pure (p_addb (p := j) (q := 1) rfl rfl (by omega)) rfl rfl rfl ?_
        refine o_pure (p_assign (v := .int .i64 (j + 1)) rfl) rfl rfl rfl ?_
        refine o_nil ?_
        refine q_round hK2 ((i + 1), (j + 1), (ls.set i.toNat (ls[j.toNat]))) ?_ ?_ ?_ ?_
        · clear hK2
          first | exact hI.keep (by omega) (beq_eq_false_iff_ne.2 (by assumption)) | exact hI.drop_ (by omega) (beq_iff_eq.2 (by assumption))
        · (try dsimp only); omega
        · exact Sub.cons rfl (Sub.cons rfl (Sub.cons rfl (Sub.cons rfl (Sub.nil _))))
        · exact fun _ hw => HeapIs.pick hw [1, 2] (by decide) rfl
      · simp only [Bool.not_eq_false', beq_iff_eq] at hc5
        refine c_skip ?_
        refine q_block_normal (q_then ?_)
        refine c_region ?_
        refine o_pure (p_move (v := .int .i64 j) rfl) rfl rfl rfl ?_
        refine o_pure (p_addb (p := j) (q := 1) rfl rfl (by omega)) rfl rfl rfl ?_
        refine o_pure (p_assign (v := .int .i64 (j + 1)) rfl) rfl rfl rfl ?_
        refine o_nil ?_
        refine q_round hK2 (i, (j + 1), ls) ?_ ?_ ?_ ?_
        · clear hK2
          first | exact hI.keep (by omega) (beq_eq_false_iff_ne.2 (by assumption)) | exact hI.drop_ (by omega) (beq_iff_eq.2 (by assumption))
        · (try dsimp only); omega
        · exact Sub.cons rfl (Sub.cons rfl (Sub.cons rfl (Sub.cons rfl (Sub.nil _))))
        · exact fun _ hw => HeapIs.pick hw [1, 2] (by decide) rfl
    · simp only [decide_eq_false_iff_not, Int.not_lt] at hc3
      refine c_exit ?_
      refine q_then_exit (q_then_exit (q_block_exit (q_then ?_)))
      refine c_seq ?_
      refine c_region ?_
      refine o_pure (p_move (v := .slice al ls.length cl) rfl) rfl rfl rfl ?_
      refine o_pure (p_move (v := .int .i64 i) rfl) rfl rfl rfl ?_
      refine o_shrinkC (i := 1) (hi := i.toNat) (T := tPoint) rfl (by omega) ?_
      refine o_pure (p_sliceCut (L0 := ls) (T := tPoint) (l := i) rfl rfl Try.underlying22 sz35 (by omega) (by omega) (by omega)) rfl rfl rfl ?_
      refine o_clearTail (i := 1) (T := tPoint) (m := (ls.length - i.toNat)) rfl rfl rfl Try.underlying22 ze35 rfl rfl (by first | omega | (simp only [List.length_append, List.length_take, List.length_drop]; omega)) ?_
      refine o_nil ?_
      refine q_then ?_
      refine c_seq ?_
      refine c_region ?_
      refine o_pure (p_move (v := .slice al ls.length cl) rfl) rfl rfl rfl ?_
      refine o_pure (p_move (v := .int .i64 i) rfl) rfl rfl rfl ?_
      refine o_pure (p_sliceKeep (L0 := ls) (T := tPoint) (l := i) rfl rfl Try.underlying22 sz35 (by omega) (by omega) (by omega)) rfl rfl rfl ?_
      refine o_pure (p_assign (v := .slice al (ls.take i.toNat).length cl) rfl) rfl rfl rfl ?_
      refine o_nil ?_
      refine q_then ?_
      refine c_ret ?_
      have hr0 : ((ls.take i.toNat) : List DPoint) = (Rg.dropS l s) := by
        first | exact hI.done (by omega) | exact (Rg.keep_all hno).symm
      refine q_endX (p := (al, cl, Sl)) (rt1 rfl (r_tmp rfl)) ?_ (fun w hw => ?_)
      · exact (by have hcc := congrArg (fun (y0 : List DPoint) => (.slice al y0.length cl : Value)) hr0; exact hcc)
      · have h2 := hw.pick (H' := [outer w0 [own tPoint Sl al cl l], own tPoint Sl al cl (ls.take i.toNat)]) [0, 1] (by decide) rfl
        exact Eq.mp (congrArg (fun z => HeapIs w0 ((outer w0 [own tPoint Sl al cl l]) :: z) w) ((by have hcc := congrArg (fun (y0 : List DPoint) => ([own tPoint Sl al cl y0] : List Ent)) hr0; exact hcc))) h2

set_option maxHeartbeats 8000000 in
set_option maxRecDepth 100000 in
theorem rremove_ok (l : List DPoint) (al : Option Addr) (cl : Nat) (s : Int) : FnM Try.prog 17 [.slice al l.length cl, .int .i64 s] (fun w => Rd tPoint w al cl l) (Option Addr × Nat) (fun p => .tuple #[.slice p.1 (Rg.rem l s).length p.2, .int .i64 (Rg.remErr l s)]) (fun p S w => SlO tPoint S w p.1 p.2 (Rg.rem l s)) := by
  refine fnM (nt := 23) (F0 := [(0, .slice al l.length cl), (1, .int .i64 s)]) Try.func17 rfl Try.ntmps17 rfl rfl (fun w0 hpre => ?_)
  have hl := hpre
  have hlhl := hl.2.1
  refine c_seq ?_
  refine c_region ?_
  refine o_box (v := .int .i64 s) rfl rfl (fun B1 => ?_)
  refine o_pure (p_assign (v := .slice none 0 0) rfl) rfl rfl rfl ?_
  refine o_pure (p_assign (v := .int .i64 0) rfl) rfl rfl rfl ?_
  refine o_nil ?_
  refine q_then ?_
  refine c_seq ?_
  refine c_seq ?_
  refine c_region ?_
  refine o_pure (p_move (v := .slice al l.length cl) rfl) rfl rfl rfl ?_
  refine o_call0 (v := .int .i64 (Rg.check l)) rfl (rcheck_ok l al cl) hf24 (fun w hw => (rd_base (i := 1) rfl hl) w hw) rfl ?_
  refine o_pure (p_assign (v := .int .i64 (Rg.check l)) rfl) rfl rfl rfl ?_
  refine o_nil ?_
  refine q_then ?_
  refine c_seq ?_
  refine c_region ?_
  refine o_pure (p_move (v := .int .i64 (Rg.check l)) rfl) rfl rfl rfl ?_
  refine o_pure (p_ne (p := (Rg.check l)) (q := 0) rfl rfl) rfl rfl rfl ?_
  refine o_nil ?_
  refine q_then ?_
  refine c_cond (b := ((Rg.check l) != 0)) rfl (fun hc2 => ?_) (fun hc2 => ?_)
  · simp only [bne_iff_ne, ne_eq] at hc2
    refine c_seq ?_
    refine c_region ?_
    refine o_pure (p_move (v := .int .i64 (Rg.check l)) rfl) rfl rfl rfl ?_
    refine o_pure (p_assign (v := .slice none 0 0) rfl) rfl rfl rfl ?_
    refine o_pure (p_assign (v := .int .i64 (Rg.check l)) rfl) rfl rfl rfl ?_
    refine o_nil ?_
    refine q_then ?_
    refine c_ret ?_
    refine q_then_ret ?_
    obtain ⟨hv1, hv2⟩ : _ ∧ _ := by first | exact Rg.re1 (l := l) (s := s) (by assumption) | exact Rg.re2 (s := s) hck (by omega) | exact Rg.re3 (s := s) hck (by omega)
    have hr0 : ([] : List DPoint) = (Rg.rem l s) := by
      first | exact hv1.symm | exact hv2.symm
    have hr1 : ((Rg.check l) : Int) = (Rg.remErr l s) := by
      first | exact hv1.symm | exact hv2.symm
    refine q_endM (p := (none, 0)) (fun _ => False) (rt2 rfl (r_tmp rfl) (r_tmp rfl)) (i := 1) rfl ?_ ?_ ?_
    · exact (by have hcc := congr (congrArg (fun (y0 : List DPoint) (y1 : Int) => (.tuple #[.slice none y0.length 0, .int .i64 y1] : Value)) hr0) hr1; exact hcc)
    · intro w hw b hb; exact hb.elim
    · intro w hw; exact Eq.mp (congrArg (fun y => SlO tPoint _ w none 0 y) hr0) (SlO.nil tPoint w)
  · simp only [bne_eq_false_iff_eq] at hc2
    have hck := hc2
    have hok := Rg.check_ok.1 hck
    have hlen := hok.len
    refine c_skip ?_
    refine q_then ?_
    refine c_seq ?_
    refine c_region ?_
    refine o_pure (p_move (v := .slice al l.length cl) rfl) rfl rfl rfl ?_
    refine o_callM rfl (clone_Point_ok l al cl (by first | assumption | omega | (simp only [List.length_append, List.length_take, List.length_drop]; omega))) hf53 (fun w hw => (rd_base (i := 1) rfl hl) w hw) rfl (fun _ _ _ _ ha hA => SlO.agree ha hA) ?_
    rintro ⟨a5, c6⟩ S3
    refine o_know (fun w hw => own_len (i := 0) (T := tPoint) hw rfl) (fun hlr7 => ?_)
    refine o_pure (p_makeFunc (vs := [.pointer (some ⟨B1, 0, none⟩)]) rfl) rfl rfl rfl ?_
    refine o_callX (pre := [own tPoint S3 a5 c6 l]) (R := [box B1 [.int .i64 s] 3, base w0]) rfl (deleteFunc_point_ok l a5 c6 S3 B1 s) hf55 rfl (fun w hw => boxX (i := 1) (js := [0]) rfl (by decide) rfl w hw) rfl ?_
    rintro ⟨a8, c9, S10⟩
    refine o_asH (H' := [own tPoint S10 a8 c9 (Rg.dropS l s), box B1 [.int .i64 s] 3, base w0]) rfl ?_
    refine o_pure (p_assign (v := .slice a8 (Rg.dropS l s).length c9) rfl) rfl rfl rfl ?_
    refine o_nil ?_
    refine q_then ?_
    refine c_seq ?_
    refine c_seq ?_
    refine c_region ?_
    refine o_pure (p_move (v := .slice a8 (Rg.dropS l s).length c9) rfl) rfl rfl rfl ?_
    refine o_pure (p_len_slice (len := (Rg.dropS l s).length) rfl rfl Try.underlying22) rfl rfl rfl ?_
    refine o_pure (p_move (v := .slice al l.length cl) rfl) rfl rfl rfl ?_
    refine o_pure (p_len_slice (len := l.length) rfl rfl Try.underlying22) rfl rfl rfl ?_
    refine o_pure (p_eq (p := ((Rg.dropS l s).length : Int)) (q := (l.length : Int)) rfl rfl) rfl rfl rfl ?_
    refine o_nil ?_
    refine q_then ?_
    refine c_cond (b := (((Rg.dropS l s).length : Int) == (l.length : Int))) rfl (fun hc12 => ?_) (fun hc12 => ?_)
    · simp only [beq_iff_eq] at hc12
      refine c_seq ?_
      refine c_region ?_
      refine o_pure (p_assign (v := .slice none 0 0) rfl) rfl rfl rfl ?_
      refine o_pure (p_assign (v := .int .i64 5) rfl) rfl rfl rfl ?_
      refine o_nil ?_
      refine q_then ?_
      refine c_ret ?_
      refine q_then_ret ?_
      obtain ⟨hv1, hv2⟩ : _ ∧ _ := by first | exact Rg.re1 (l := l) (s := s) (by assumption) | exact Rg.re2 (s := s) hck (by omega) | exact Rg.re3 (s := s) hck (by omega)
      have hr0 : ([] : List DPoint) = (Rg.rem l s) := by
        first | exact hv1.symm | exact hv2.symm
      have hr1 : (5 : Int) = (Rg.remErr l s) := by
        first | exact hv1.symm | exact hv2.symm
      refine q_endM (p := (none, 0)) (fun _ => False) (rt2 rfl (r_tmp rfl) (r_tmp rfl)) (i := 2) rfl ?_ ?_ ?_
      · exact (by have hcc := congr (congrArg (fun (y0 : List DPoint) (y1 : Int) => (.tuple #[.slice none y0.length 0, .int .i64 y1] : Value)) hr0) hr1; exact hcc)
      · intro w hw b hb; exact hb.elim
      · intro w hw; exact Eq.mp (congrArg (fun y => SlO tPoint _ w none 0 y) hr0) (SlO.nil tPoint w)
    · simp only [beq_eq_false_iff_ne, ne_eq] at hc12
      refine c_skip ?_
      refine q_then ?_
      refine c_seq ?_
      refine c_region ?_
      refine o_pure (p_move (v := .slice a8 (Rg.dropS l s).length c9) rfl) rfl rfl rfl ?_
      refine o_pure (p_assign (v := .slice a8 (Rg.dropS l s).length c9) rfl) rfl rfl rfl ?_
      refine o_pure (p_assign (v := .int .i64 0) rfl) rfl rfl rfl ?_
      refine o_nil ?_
      refine q_then ?_
      refine c_ret ?_
      obtain ⟨hv1, hv2⟩ : _ ∧ _ := by first | exact Rg.re1 (l := l) (s := s) (by assumption) | exact Rg.re2 (s := s) hck (by omega) | exact Rg.re3 (s := s) hck (by omega)
      have hr0 : ((Rg.dropS l s) : List DPoint) = (Rg.rem l s) := by
        first | exact hv1.symm | exact hv2.symm
      have hr1 : (0 : Int) = (Rg.remErr l s) := by
        first | exact hv1.symm | exact hv2.symm
      refine q_endM (p := (a8, c9)) S10 (rt2 rfl (r_tmp rfl) (r_tmp rfl)) (i := 2) rfl ?_ ?_ ?_
      · exact (by have hcc := congr (congrArg (fun (y0 : List DPoint) (y1 : Int) => (.tuple #[.slice a8 y0.length c9, .int .i64 y1] : Value)) hr0) hr1; exact hcc)
      · exact fun w hw => hw.above (i := 2) (j := 0) (by decide) rfl rfl
      · intro w hw; exact Eq.mp (congrArg (fun y => SlO tPoint _ w a8 c9 y) hr0) ((hw.at (i := 0) rfl).here)
end Go.Proofs.Ytgjdmnljnimamaa
