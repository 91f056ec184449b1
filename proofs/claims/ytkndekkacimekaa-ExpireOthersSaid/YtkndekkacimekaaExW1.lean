/- The walks, printed by a program from the translation and a specification. -/
import Derived.Test.YtkndekkacimekaaExF
import Derived.Test.YtkndekkacimekaaExLaw2
namespace Go.Proofs.Ytkndekkacimekaa
open Go.Sx Go.RowKit
set_option maxHeartbeats 8000000 in
set_option maxRecDepth 100000 in
theorem insert_Entry_ok (l : List DEntry) (al : Option Addr) (cl : Nat) (Sl : Nat → Prop) (i : Int) (v : List DEntry) (av : Option Addr) (cv : Nat) (Sv : Nat → Prop) (hy1 : 0 ≤ i ∧ i ≤ (l.length : Int) ∧ l.length ≤ 1000000 ∧ v.length = 1) : FnX Try.prog 50 [.slice al l.length cl, .int .i64 i, .slice av v.length cv] [own tEntry Sl al cl l, own tEntry Sv av cv v] (fun _ => True) (Option Addr × Nat × (Nat → Prop)) (fun p => .slice p.1 (l.take i.toNat ++ v ++ l.drop i.toNat).length p.2.1) (fun p => [own tEntry p.2.2 p.1 p.2.1 (l.take i.toNat ++ v ++ l.drop i.toNat)]) := by
  refine fnX (nt := 95) (F0 := [(0, .slice al l.length cl), (1, .int .i64 i), (2, .slice av v.length cv)]) Try.func50 rfl Try.ntmps50 rfl rfl (fun w0 hpre => ?_)
  refine c_know (fun w hw => own_len (i := 1) (T := tEntry) hw rfl) (fun hlown_l => ?_)
  obtain ⟨hcown_l, hlown_l⟩ := hlown_l
  refine c_know (fun w hw => own_len (i := 2) (T := tEntry) hw rfl) (fun hlown_v => ?_)
  obtain ⟨hcown_v, hlown_v⟩ := hlown_v
  refine c_seq ?_
  refine c_region ?_
  refine o_pure (p_assign (v := .slice none 0 0) rfl) rfl rfl rfl ?_
  refine o_nil ?_
  refine q_then ?_
  refine c_seq ?_
  refine c_region ?_
  refine o_pure (p_move (v := .slice al l.length cl) rfl) rfl rfl rfl ?_
  refine o_pure (p_move (v := .int .i64 i) rfl) rfl rfl rfl ?_
  refine o_pure (p_sliceL (L := l) (T := tEntry) (l := i) rfl rfl Try.underlying22 sz42 (by first | omega | (simp only [List.length_append, List.length_take, List.length_replicate, List.length_drop, List.length_set]; omega)) (by first | omega | (simp only [List.length_append, List.length_take, List.length_replicate, List.length_drop, List.length_set]; omega)) (rd_own (i := 1) rfl)) rfl rfl rfl ?_
  refine o_nil ?_
  refine q_then ?_
  refine c_seq ?_
  refine c_region ?_
  refine o_pure (p_move (v := .slice av v.length cv) rfl) rfl rfl rfl ?_
  refine o_pure (p_len_slice (len := v.length) rfl rfl Try.underlying22) rfl rfl rfl ?_
  refine o_pure (p_assign (v := .int .i64 (v.length : Int)) rfl) rfl rfl rfl ?_
  refine o_nil ?_
  refine q_then ?_
  refine c_seq ?_
  refine c_seq ?_
  refine c_region ?_
  refine o_pure (p_move (v := .int .i64 (v.length : Int)) rfl) rfl rfl rfl ?_
  refine o_pure (p_eq (p := (v.length : Int)) (q := 0) rfl rfl) rfl rfl rfl ?_
  refine o_nil ?_
  refine q_then ?_
  refine c_cond (b := ((v.length : Int) == 0)) rfl (fun hc1 => ?_) (fun hc1 => ?_)
  · simp only [beq_iff_eq] at hc1
    exfalso; omega
  · simp only [beq_eq_false_iff_ne, ne_eq] at hc1
    refine c_skip ?_
    refine q_then ?_
    refine c_seq ?_
    refine c_region ?_
    refine o_pure (p_move (v := .slice al l.length cl) rfl) rfl rfl rfl ?_
    refine o_pure (p_len_slice (len := l.length) rfl rfl Try.underlying22) rfl rfl rfl ?_
    refine o_pure (p_assign (v := .int .i64 (l.length : Int)) rfl) rfl rfl rfl ?_
    refine o_nil ?_
    refine q_then ?_
    refine c_seq ?_
    refine c_seq ?_
    refine c_region ?_
    refine o_pure (p_move (v := .int .i64 i) rfl) rfl rfl rfl ?_
    refine o_pure (p_move (v := .int .i64 (l.length : Int)) rfl) rfl rfl rfl ?_
    refine o_pure (p_eq (p := i) (q := (l.length : Int)) rfl rfl) rfl rfl rfl ?_
    refine o_nil ?_
    refine q_then ?_
    refine c_cond (b := (i == (l.length : Int))) rfl (fun hc2 => ?_) (fun hc2 => ?_)
    · simp only [beq_iff_eq] at hc2
      refine c_seq ?_
      refine c_region ?_
      refine o_pure (p_move (v := .slice al l.length cl) rfl) rfl rfl rfl ?_
      refine o_pure (p_move (v := .slice av v.length cv) rfl) rfl rfl rfl ?_
      refine o_append (i := 1) (L := l) (M := v) (T := tEntry) rfl rfl rfl (rd_own (i := 2) rfl) Try.underlying22 Try.underlying22 (by intro k h; cases h) el42 (by intro z; simp [tEntry, one1]) (by decide) (by first | omega | (simp only [List.length_cons, List.length_nil]; omega) | (simp only [List.length_append, List.length_cons, List.length_nil, List.length_take, List.length_drop]; omega)) rfl (fun a3 c4 S5 => ?_)
      refine o_pure (p_assign (v := .slice a3 (l ++ v).length c4) rfl) rfl rfl rfl ?_
      refine o_nil ?_
      refine q_then ?_
      refine c_ret ?_
      refine q_then_ret ?_
      have hr0 : ((l ++ v) : List DEntry) = (l.take i.toNat ++ v ++ l.drop i.toNat) := by
        first | rfl | (obtain rfl : i = (l.length : Int) := (by assumption); simp)
      refine q_endX (p := (a3, c4, S5)) (rt1 rfl (r_tmp rfl)) ?_ (fun w hw => ?_)
      · exact (by have hcc := congrArg (fun (y0 : List DEntry) => (.slice a3 y0.length c4 : Value)) hr0; exact hcc)
      · have h2 := hw.pick (H' := [outer w0 [own tEntry Sl al cl l, own tEntry Sv av cv v], own tEntry S5 a3 c4 (l ++ v)]) [0, 1] (by decide) rfl
        exact Eq.mp (congrArg (fun z => HeapIs w0 ((outer w0 [own tEntry Sl al cl l, own tEntry Sv av cv v]) :: z) w) ((by have hcc := congrArg (fun (y0 : List DEntry) => ([own tEntry S5 a3 c4 y0] : List Ent)) hr0; exact hcc))) h2
    · simp only [beq_eq_false_iff_ne, ne_eq] at hc2
      refine c_skip ?_
      refine q_then ?_
      refine c_seq ?_
      refine c_seq ?_
      refine c_region ?_
      refine o_pure (p_move (v := .int .i64 (l.length : Int)) rfl) rfl rfl rfl ?_
      refine o_pure (p_move (v := .int .i64 (v.length : Int)) rfl) rfl rfl rfl ?_
      refine o_pure (p_addb (p := (l.length : Int)) (q := (v.length : Int)) rfl rfl (by omega)) rfl rfl rfl ?_
      refine o_pure (p_move (v := .slice al l.length cl) rfl) rfl rfl rfl ?_
      refine o_pure (p_cap_slice rfl rfl Try.underlying22) rfl rfl rfl ?_
      refine o_pure (p_gt (p := ((l.length : Int) + (v.length : Int))) (q := (cl : Int)) rfl rfl) rfl rfl rfl ?_
      refine o_nil ?_
      refine q_then ?_
      refine c_cond (b := decide ((cl : Int) < ((l.length : Int) + (v.length : Int)))) rfl (fun hc6 => ?_) (fun hc6 => ?_)
      · simp only [decide_eq_true_eq] at hc6
        refine c_seq ?_
        refine c_region ?_
        refine o_pure (p_move (v := .slice al l.length cl) rfl) rfl rfl rfl ?_
        refine o_pure (p_move (v := .int .i64 i) rfl) rfl rfl rfl ?_
        refine o_pure (p_sliceH (L := l) (T := tEntry) (h := i) rfl rfl Try.underlying22 sz42 (by first | omega | (simp only [List.length_append, List.length_take, List.length_replicate, List.length_drop, List.length_set]; omega)) (by first | omega | (simp only [List.length_append, List.length_take, List.length_replicate, List.length_drop, List.length_set]; omega)) (rd_own (i := 1) rfl)) rfl rfl rfl ?_
        refine o_pure (p_move (v := .int .i64 (l.length : Int)) rfl) rfl rfl rfl ?_
        refine o_pure (p_move (v := .int .i64 (v.length : Int)) rfl) rfl rfl rfl ?_
        refine o_pure (p_addb (p := (l.length : Int)) (q := (v.length : Int)) rfl rfl (by omega)) rfl rfl rfl ?_
        refine o_pure (p_move (v := .int .i64 i) rfl) rfl rfl rfl ?_
        refine o_pure (p_subb (p := ((l.length : Int) + (v.length : Int))) (q := i) rfl rfl (by omega)) rfl rfl rfl ?_
        refine o_appendZ (i := 1) (m := i.toNat) (k := (l.length + v.length - i.toNat)) (L := l) (T := tEntry) (z := (⟨0, 0, 0⟩ : DEntry)) rfl rfl rfl (by omega) Try.underlying22 Try.underlying3 el42 ze42 rfl (by decide) (by omega) rfl (fun a7 c8 S9 => ?_)
        refine o_know (fun w hw => own_len (i := 0) (T := tEntry) hw rfl) (fun hlz11 => ?_)
        have hlz11b : ((l.take i.toNat) ++ (List.replicate (l.length + v.length - i.toNat) (⟨0, 0, 0⟩ : DEntry))).length = l.length + v.length := by simp only [List.length_append, List.length_take, List.length_replicate, List.length_drop, List.length_set]; omega
        refine o_pure (p_assign (v := .slice a7 ((l.take i.toNat) ++ (List.replicate (l.length + v.length - i.toNat) (⟨0, 0, 0⟩ : DEntry))).length c8) rfl) rfl rfl rfl ?_
        refine o_nil ?_
        refine q_then ?_
        refine c_seq ?_
        refine c_region ?_
        refine o_pure (p_move (v := .slice a7 ((l.take i.toNat) ++ (List.replicate (l.length + v.length - i.toNat) (⟨0, 0, 0⟩ : DEntry))).length c8) rfl) rfl rfl rfl ?_
        refine o_pure (p_move (v := .int .i64 i) rfl) rfl rfl rfl ?_
        refine o_pure (p_sliceL (L := ((l.take i.toNat) ++ (List.replicate (l.length + v.length - i.toNat) (⟨0, 0, 0⟩ : DEntry)))) (T := tEntry) (l := i) rfl rfl Try.underlying22 sz42 (by first | omega | (simp only [List.length_append, List.length_take, List.length_replicate, List.length_drop, List.length_set]; omega)) (by first | omega | (simp only [List.length_append, List.length_take, List.length_replicate, List.length_drop, List.length_set]; omega)) (rd_own (i := 0) rfl)) rfl rfl rfl ?_
        refine o_pure (p_move (v := .slice av v.length cv) rfl) rfl rfl rfl ?_
        refine o_copy (i := 0) (lo := i.toNat) (M := v) (T := tEntry) (L := ((l.take i.toNat) ++ (List.replicate (l.length + v.length - i.toNat) (⟨0, 0, 0⟩ : DEntry)))) (m := 1) (F' := [(0, .slice al l.length cl), (1, .int .i64 i), (7, .int .i64 (v.length : Int)), (9, .slice a7 (l.take i.toNat ++ v ++ List.replicate (l.length - i.toNat) (⟨0, 0, 0⟩ : DEntry)).length c8)]) rfl rfl rfl (rd_own (i := 3) rfl) (by (try simp only [List.length_append, List.length_take, List.length_replicate, List.length_drop, List.length_set]); omega) Try.underlying22 sz42 (by intro z; simp [tEntry, one1]) (by (try simp only [List.length_append, List.length_take, List.length_replicate, List.length_drop, List.length_set]); omega) rfl (by omega) (Sub.cons rfl (Sub.cons rfl (Sub.cons rfl (Sub.cons (by show some _ = some _; congr 2; first | (simp; omega) | simp) (Sub.nil _))))) ?_
        refine o_asH (H := [own tEntry S9 a7 c8 (((l.take i.toNat) ++ (List.replicate (l.length + v.length - i.toNat) (⟨0, 0, 0⟩ : DEntry))).take i.toNat ++ v ++ ((l.take i.toNat) ++ (List.replicate (l.length + v.length - i.toNat) (⟨0, 0, 0⟩ : DEntry))).drop (i.toNat + v.length)), outer w0 [own tEntry Sl al cl l, own tEntry Sv av cv v], own tEntry Sl al cl l, own tEntry Sv av cv v]) (H' := [own tEntry S9 a7 c8 (l.take i.toNat ++ v ++ List.replicate (l.length - i.toNat) (⟨0, 0, 0⟩ : DEntry)), outer w0 [own tEntry Sl al cl l, own tEntry Sv av cv v], own tEntry Sl al cl l, own tEntry Sv av cv v]) (by have hins : ((((l.take i.toNat) ++ (List.replicate (l.length + v.length - i.toNat) (⟨0, 0, 0⟩ : DEntry))).take i.toNat ++ v ++ ((l.take i.toNat) ++ (List.replicate (l.length + v.length - i.toNat) (⟨0, 0, 0⟩ : DEntry))).drop (i.toNat + v.length)) : List DEntry) = (l.take i.toNat ++ v ++ List.replicate (l.length - i.toNat) (⟨0, 0, 0⟩ : DEntry)) := (by exact ins_a (by omega) (by omega)); rw [hins]) ?_
        refine o_nil ?_
        refine q_then ?_
        refine c_seq ?_
        refine c_held hmix [ownE tEntry S9 a7 c8 ((l.take i.toNat ++ v ++ List.replicate (l.length - i.toNat) (⟨0, 0, 0⟩ : DEntry)).length), outer w0 [own tEntry Sl al cl l, own tEntry Sv av cv v], own tEntry Sl al cl l, own tEntry Sv av cv v] rfl rfl ?_
        refine h_take (i := 0) (ls := #[true, false, false, false, false, false, false, false, false]) rfl (by kernel_rfl) (by kernel_rfl) (by kernel_rfl) (fun _ _ _ h => h) (p_move (v := .slice a7 (l.take i.toNat ++ v ++ List.replicate (l.length - i.toNat) (⟨0, 0, 0⟩ : DEntry)).length c8) rfl) rfl rfl rfl (fun _ hw => HeapIs.drop (HeapIs.toE (i := 0) (m := (l.take i.toNat ++ v ++ List.replicate (l.length - i.toNat) (⟨0, 0, 0⟩ : DEntry)).length) (T := tEntry) rfl (by first | rfl | (simp; done) | (simp; omega)) hw) (List.Sublist.refl _)) rfl ?_
        refine h_take (i := 1) (ls := #[true, true, false, false, false, false, false, false, false]) rfl (by kernel_rfl) (by kernel_rfl) (by kernel_rfl) (fun _ _ _ h => h) (p_move (v := .int .i64 i) rfl) rfl rfl rfl (fun _ hw => HeapIs.drop (HeapIs.toE (i := 0) (m := (l.take i.toNat ++ v ++ List.replicate (l.length - i.toNat) (⟨0, 0, 0⟩ : DEntry)).length) (T := tEntry) rfl (by first | rfl | (simp; done) | (simp; omega)) hw) (List.Sublist.refl _)) rfl ?_
        refine h_take (i := 2) (ls := #[true, true, true, false, false, false, false, false, false]) rfl (by kernel_rfl) (by kernel_rfl) (by kernel_rfl) (fun _ _ _ h => h) (p_move (v := .int .i64 (v.length : Int)) rfl) rfl rfl rfl (fun _ hw => HeapIs.drop (HeapIs.toE (i := 0) (m := (l.take i.toNat ++ v ++ List.replicate (l.length - i.toNat) (⟨0, 0, 0⟩ : DEntry)).length) (T := tEntry) rfl (by first | rfl | (simp; done) | (simp; omega)) hw) (List.Sublist.refl _)) rfl ?_
        refine h_take (i := 3) (ls := #[true, true, true, true, false, false, false, false, false]) rfl (by kernel_rfl) (by kernel_rfl) (by kernel_rfl) (fun _ _ _ h => h) (p_addb (p := i) (q := (v.length : Int)) rfl rfl (by omega)) rfl rfl rfl (fun _ hw => HeapIs.drop (HeapIs.toE (i := 0) (m := (l.take i.toNat ++ v ++ List.replicate (l.length - i.toNat) (⟨0, 0, 0⟩ : DEntry)).length) (T := tEntry) rfl (by first | rfl | (simp; done) | (simp; omega)) hw) (List.Sublist.refl _)) rfl ?_
        refine h_take (i := 4) (ls := #[true, true, true, true, true, false, false, false, false]) rfl (by kernel_rfl) (by kernel_rfl) (by kernel_rfl) (fun _ _ _ h => h) (p_sliceLE (j := 0) (m := (l.take i.toNat ++ v ++ List.replicate (l.length - i.toNat) (⟨0, 0, 0⟩ : DEntry)).length) (T := tEntry) (l := (i + (v.length : Int))) rfl rfl rfl Try.underlying22 sz42 (by omega) (by first | omega | (simp; omega))) rfl rfl rfl (fun _ hw => HeapIs.drop (HeapIs.toE (i := 0) (m := (l.take i.toNat ++ v ++ List.replicate (l.length - i.toNat) (⟨0, 0, 0⟩ : DEntry)).length) (T := tEntry) rfl (by first | rfl | (simp; done) | (simp; omega)) hw) (List.Sublist.refl _)) rfl ?_
        refine h_take (i := 5) (ls := #[true, true, true, true, true, true, false, false, false]) rfl (by kernel_rfl) (by kernel_rfl) (by kernel_rfl) (fun _ _ _ h => h) (p_move (v := .slice al l.length cl) rfl) rfl rfl rfl (fun _ hw => HeapIs.drop (HeapIs.toE (i := 0) (m := (l.take i.toNat ++ v ++ List.replicate (l.length - i.toNat) (⟨0, 0, 0⟩ : DEntry)).length) (T := tEntry) rfl (by first | rfl | (simp; done) | (simp; omega)) hw) (List.Sublist.refl _)) rfl ?_
        refine h_take (i := 6) (ls := #[true, true, true, true, true, true, true, false, false]) rfl (by kernel_rfl) (by kernel_rfl) (by kernel_rfl) (fun _ _ _ h => h) (p_move (v := .int .i64 i) rfl) rfl rfl rfl (fun _ hw => HeapIs.drop (HeapIs.toE (i := 0) (m := (l.take i.toNat ++ v ++ List.replicate (l.length - i.toNat) (⟨0, 0, 0⟩ : DEntry)).length) (T := tEntry) rfl (by first | rfl | (simp; done) | (simp; omega)) hw) (List.Sublist.refl _)) rfl ?_
        refine h_take (i := 7) (ls := #[true, true, true, true, true, true, true, true, false]) rfl (by kernel_rfl) (by kernel_rfl) (by kernel_rfl) (fun _ _ _ h => h) (p_sliceL (L := l) (T := tEntry) (l := i) rfl rfl Try.underlying22 sz42 (by first | omega | (simp only [List.length_append, List.length_take, List.length_replicate, List.length_drop, List.length_set]; omega)) (by first | omega | (simp only [List.length_append, List.length_take, List.length_replicate, List.length_drop, List.length_set]; omega)) (rd_own (i := 2) rfl)) rfl rfl rfl (fun _ hw => HeapIs.drop (HeapIs.toE (i := 0) (m := (l.take i.toNat ++ v ++ List.replicate (l.length - i.toNat) (⟨0, 0, 0⟩ : DEntry)).length) (T := tEntry) rfl (by first | rfl | (simp; done) | (simp; omega)) hw) (List.Sublist.refl _)) rfl ?_
        refine h_one (i := 8) (ls := #[true, true, true, true, true, true, true, true, true]) (by kernel_rfl) rfl rfl ?_
        refine o_copy (i := 0) (lo := (i + (v.length : Int)).toNat) (M := (l.drop i.toNat)) (T := tEntry) (L := (l.take i.toNat ++ v ++ List.replicate (l.length - i.toNat) (⟨0, 0, 0⟩ : DEntry))) (m := (l.length - i.toNat)) (F' := [(0, .slice al l.length cl), (1, .int .i64 i), (7, .int .i64 (v.length : Int)), (9, .slice a7 (l.take i.toNat ++ v ++ l.drop i.toNat).length c8)]) rfl rfl rfl (rd_dropC (l := i.toNat) (rd_own (i := 2) rfl) (by first | omega | (simp only [List.length_append, List.length_take, List.length_replicate, List.length_drop, List.length_set]; omega))) (by (try simp only [List.length_append, List.length_take, List.length_replicate, List.length_drop, List.length_set]); omega) Try.underlying22 sz42 (by intro z; simp [tEntry, one1]) (by (try simp only [List.length_append, List.length_take, List.length_replicate, List.length_drop, List.length_set]); omega) rfl (by simp) (Sub.cons rfl (Sub.cons rfl (Sub.cons rfl (Sub.cons (by show some _ = some _; congr 2; first | (simp; omega) | simp) (Sub.nil _))))) ?_
        refine o_asH (H := [own tEntry S9 a7 c8 ((l.take i.toNat ++ v ++ List.replicate (l.length - i.toNat) (⟨0, 0, 0⟩ : DEntry)).take ((i + (v.length : Int)).toNat) ++ (l.drop i.toNat) ++ (l.take i.toNat ++ v ++ List.replicate (l.length - i.toNat) (⟨0, 0, 0⟩ : DEntry)).drop (((i + (v.length : Int)).toNat) + (l.drop i.toNat).length)), outer w0 [own tEntry Sl al cl l, own tEntry Sv av cv v], own tEntry Sl al cl l, own tEntry Sv av cv v]) (H' := [own tEntry S9 a7 c8 (l.take i.toNat ++ v ++ l.drop i.toNat), outer w0 [own tEntry Sl al cl l, own tEntry Sv av cv v], own tEntry Sl al cl l, own tEntry Sv av cv v]) (by have hins : (((l.take i.toNat ++ v ++ List.replicate (l.length - i.toNat) (⟨0, 0, 0⟩ : DEntry)).take ((i + (v.length : Int)).toNat) ++ (l.drop i.toNat) ++ (l.take i.toNat ++ v ++ List.replicate (l.length - i.toNat) (⟨0, 0, 0⟩ : DEntry)).drop (((i + (v.length : Int)).toNat) + (l.drop i.toNat).length)) : List DEntry) = (l.take i.toNat ++ v ++ l.drop i.toNat) := (by exact ins_b (by omega) (by omega) (by omega)); rw [hins]) ?_
        refine o_nil ?_
        refine h_next (fun _ hw => HeapIs.drop (HeapIs.toE (i := 0) (m := (l.take i.toNat ++ v ++ List.replicate (l.length - i.toNat) (⟨0, 0, 0⟩ : DEntry)).length) (T := tEntry) rfl (by first | rfl | (simp; done) | (simp; omega)) hw) (List.Sublist.refl _)) ?_
        refine h_done (by kernel_rfl) ?_
        refine q_cast (F' := [(9, .slice a7 (l.take i.toNat ++ v ++ l.drop i.toNat).length c8)]) (H := [own tEntry S9 a7 c8 (l.take i.toNat ++ v ++ l.drop i.toNat), outer w0 [own tEntry Sl al cl l, own tEntry Sv av cv v], own tEntry Sl al cl l, own tEntry Sv av cv v]) (H' := [own tEntry S9 a7 c8 (l.take i.toNat ++ v ++ l.drop i.toNat), outer w0 [own tEntry Sl al cl l, own tEntry Sv av cv v], own tEntry Sl al cl l, own tEntry Sv av cv v]) (Sub.cons rfl (Sub.nil _)) (by rfl) ?_
        refine q_then ?_
        refine c_seq ?_
        refine c_region ?_
        refine o_pure (p_move (v := .slice a7 (l.take i.toNat ++ v ++ l.drop i.toNat).length c8) rfl) rfl rfl rfl ?_
        refine o_pure (p_assign (v := .slice a7 (l.take i.toNat ++ v ++ l.drop i.toNat).length c8) rfl) rfl rfl rfl ?_
        refine o_nil ?_
        refine q_then ?_
        refine c_ret ?_
        refine q_then_ret ?_
        refine q_endX (p := (a7, c8, S9)) (rt1 rfl (r_tmp rfl)) ?_ (fun w hw => ?_)
        · exact rfl
        · have h2 := hw.pick (H' := [outer w0 [own tEntry Sl al cl l, own tEntry Sv av cv v], own tEntry S9 a7 c8 (l.take i.toNat ++ v ++ l.drop i.toNat)]) [1, 0] (by decide) rfl
          exact Eq.mp (congrArg (fun z => HeapIs w0 ((outer w0 [own tEntry Sl al cl l, own tEntry Sv av cv v]) :: z) w) (rfl)) h2
      · simp only [decide_eq_false_iff_not, Int.not_lt] at hc6
        refine c_skip ?_
        refine q_then ?_
        refine c_seq ?_
        refine c_region ?_
        refine o_pure (p_move (v := .slice al l.length cl) rfl) rfl rfl rfl ?_
        refine o_pure (p_move (v := .int .i64 (l.length : Int)) rfl) rfl rfl rfl ?_
        refine o_pure (p_move (v := .int .i64 (v.length : Int)) rfl) rfl rfl rfl ?_
        refine o_pure (p_addb (p := (l.length : Int)) (q := (v.length : Int)) rfl rfl (by omega)) rfl rfl rfl ?_
        refine o_pure (p_slice0 (hi := (l.length + v.length)) (hv := ((l.length : Int) + (v.length : Int))) rfl rfl Try.underlying22 sz42 (by omega) (by omega)) rfl rfl rfl ?_
        refine o_pure (p_assign (v := .slice al (l.length + v.length) cl) rfl) rfl rfl rfl ?_
        refine o_nil ?_
        refine q_then ?_
        refine c_seq ?_
        refine c_seq ?_
        refine c_region ?_
        refine o_pure (p_move (v := .slice av v.length cv) rfl) rfl rfl rfl ?_
        refine o_pure (p_move (v := .slice al (l.length + v.length) cl) rfl) rfl rfl rfl ?_
        refine o_pure (p_move (v := .int .i64 i) rfl) rfl rfl rfl ?_
        refine o_pure (p_move (v := .int .i64 (v.length : Int)) rfl) rfl rfl rfl ?_
        refine o_pure (p_addb (p := i) (q := (v.length : Int)) rfl rfl (by omega)) rfl rfl rfl ?_
        refine o_pure (p_slice (l := (i.toNat + 1)) (hi := (l.length + v.length)) (m := cl) (lv := some (.int .i64 (i + (v.length : Int)))) (hv := none) (mv := none) rfl rfl rfl rfl Try.underlying22 sz42 (.inr ⟨.i64, by congr 1; congr 1; omega⟩) (.inl ⟨rfl, rfl⟩) (.inl ⟨rfl, rfl⟩) (fun _ => rfl) (by omega) (by omega) (Nat.le_refl _) rfl) rfl rfl rfl ?_
        refine o_pure (p_overlaps (tS := 22) (tR := 4) (i := 1) (j := 2) (lo := (i.toNat + 1)) (M := v) Try.func82 (by kernel_rfl) (by kernel_rfl) (by kernel_rfl) (by kernel_rfl) rfl rfl rfl rfl (by decide) Try.underlying22 sz42 (by omega) (by omega) (by decide)) rfl rfl rfl ?_
        refine o_pure (p_not (b := false) rfl) rfl rfl rfl ?_
        refine o_nil ?_
        refine q_then ?_
        refine c_true rfl ?_
        refine c_seq ?_
        refine c_held hmix [outer w0 [own tEntry Sl al cl l, own tEntry Sv av cv v], own tEntry Sv av cv v] rfl rfl ?_
        refine h_take (i := 0) (ls := #[true, false, false, false, false, false, false, false, false]) rfl (by kernel_rfl) (by kernel_rfl) (by kernel_rfl) (fun _ _ _ h => h) (p_move (v := .slice al (l.length + v.length) cl) rfl) rfl rfl rfl (fun _ hw => HeapIs.drop hw (List.Sublist.cons_cons _ (List.Sublist.cons _ (List.Sublist.cons_cons _ (List.Sublist.slnil))))) rfl ?_
        refine h_take (i := 1) (ls := #[true, true, false, false, false, false, false, false, false]) rfl (by kernel_rfl) (by kernel_rfl) (by kernel_rfl) (fun _ _ _ h => h) (p_move (v := .int .i64 i) rfl) rfl rfl rfl (fun _ hw => HeapIs.drop hw (List.Sublist.cons_cons _ (List.Sublist.cons _ (List.Sublist.cons_cons _ (List.Sublist.slnil))))) rfl ?_
        refine h_take (i := 2) (ls := #[true, true, true, false, false, false, false, false, false]) rfl (by kernel_rfl) (by kernel_rfl) (by kernel_rfl) (fun _ _ _ h => h) (p_move (v := .int .i64 (v.length : Int)) rfl) rfl rfl rfl (fun _ hw => HeapIs.drop hw (List.Sublist.cons_cons _ (List.Sublist.cons _ (List.Sublist.cons_cons _ (List.Sublist.slnil))))) rfl ?_
        refine h_take (i := 3) (ls := #[true, true, true, true, false, false, false, false, false]) rfl (by kernel_rfl) (by kernel_rfl) (by kernel_rfl) (fun _ _ _ h => h) (p_addb (p := i) (q := (v.length : Int)) rfl rfl (by omega)) rfl rfl rfl (fun _ hw => HeapIs.drop hw (List.Sublist.cons_cons _ (List.Sublist.cons _ (List.Sublist.cons_cons _ (List.Sublist.slnil))))) rfl ?_
        refine h_take (i := 4) (ls := #[true, true, true, true, true, false, false, false, false]) rfl (by kernel_rfl) (by kernel_rfl) (by kernel_rfl) (fun _ _ _ h => h) (p_slice (l := (i.toNat + 1)) (hi := (l.length + v.length)) (m := cl) (lv := some (.int .i64 (i + (v.length : Int)))) (hv := none) (mv := none) rfl rfl rfl rfl Try.underlying22 sz42 (.inr ⟨.i64, by congr 1; congr 1; omega⟩) (.inl ⟨rfl, rfl⟩) (.inl ⟨rfl, rfl⟩) (fun _ => rfl) (by omega) (by omega) (Nat.le_refl _) rfl) rfl rfl rfl (fun _ hw => HeapIs.drop hw (List.Sublist.cons_cons _ (List.Sublist.cons _ (List.Sublist.cons_cons _ (List.Sublist.slnil))))) rfl ?_
        refine h_take (i := 5) (ls := #[true, true, true, true, true, true, false, false, false]) rfl (by kernel_rfl) (by kernel_rfl) (by kernel_rfl) (fun _ _ _ h => h) (p_move (v := .slice al (l.length + v.length) cl) rfl) rfl rfl rfl (fun _ hw => HeapIs.drop hw (List.Sublist.cons_cons _ (List.Sublist.cons _ (List.Sublist.cons_cons _ (List.Sublist.slnil))))) rfl ?_
        refine h_take (i := 6) (ls := #[true, true, true, true, true, true, true, false, false]) rfl (by kernel_rfl) (by kernel_rfl) (by kernel_rfl) (fun _ _ _ h => h) (p_move (v := .int .i64 i) rfl) rfl rfl rfl (fun _ hw => HeapIs.drop hw (List.Sublist.cons_cons _ (List.Sublist.cons _ (List.Sublist.cons_cons _ (List.Sublist.slnil))))) rfl ?_
        refine h_take (i := 7) (ls := #[true, true, true, true, true, true, true, true, false]) rfl (by kernel_rfl) (by kernel_rfl) (by kernel_rfl) (fun _ _ _ h => h) (p_slice (l := i.toNat) (hi := (l.length + v.length)) (m := cl) (lv := some (.int .i64 i)) (hv := none) (mv := none) rfl rfl rfl rfl Try.underlying22 sz42 (.inr ⟨.i64, by congr 1; congr 1; omega⟩) (.inl ⟨rfl, rfl⟩) (.inl ⟨rfl, rfl⟩) (fun _ => rfl) (by omega) (by omega) (Nat.le_refl _) rfl) rfl rfl rfl (fun _ hw => HeapIs.drop hw (List.Sublist.cons_cons _ (List.Sublist.cons _ (List.Sublist.cons_cons _ (List.Sublist.slnil))))) rfl ?_
        refine h_one (i := 8) (ls := #[true, true, true, true, true, true, true, true, true]) (by kernel_rfl) rfl rfl ?_
        refine o_copy (i := 1) (lo := (i.toNat + 1)) (M := (l.drop i.toNat)) (T := tEntry) (L := l) (m := (l.length - i.toNat)) (F' := [(0, .slice al (l.take (i.toNat + 1) ++ l.drop i.toNat).length cl), (1, .int .i64 i), (2, .slice av v.length cv), (7, .int .i64 (v.length : Int)), (8, .int .i64 (l.length : Int)), (68, .bool true)]) rfl rfl rfl (rd_dropC (l := i.toNat) (rd_own (i := 1) rfl) (by omega)) (by (try simp only [List.length_append, List.length_take, List.length_replicate, List.length_drop, List.length_set]); omega) Try.underlying22 sz42 (by intro z; simp [tEntry, one1]) (by (try simp only [List.length_append, List.length_take, List.length_replicate, List.length_drop, List.length_set]); omega) rfl (by simp) (Sub.cons (by show some _ = some _; congr 2; first | (simp; omega) | simp) (Sub.cons rfl (Sub.cons rfl (Sub.cons rfl (Sub.cons rfl (Sub.cons rfl (Sub.nil _))))))) ?_
        refine o_asH (H := [outer w0 [own tEntry Sl al cl l, own tEntry Sv av cv v], own tEntry Sl al cl (l.take (i.toNat + 1) ++ (l.drop i.toNat) ++ l.drop ((i.toNat + 1) + (l.drop i.toNat).length)), own tEntry Sv av cv v]) (H' := [outer w0 [own tEntry Sl al cl l, own tEntry Sv av cv v], own tEntry Sl al cl (l.take (i.toNat + 1) ++ l.drop i.toNat), own tEntry Sv av cv v]) (by have hins : ((l.take (i.toNat + 1) ++ (l.drop i.toNat) ++ l.drop ((i.toNat + 1) + (l.drop i.toNat).length)) : List DEntry) = (l.take (i.toNat + 1) ++ l.drop i.toNat) := (by exact ins_c (by omega) (by omega)); rw [hins]) ?_
        refine o_nil ?_
        refine h_next (fun _ hw => HeapIs.drop hw (List.Sublist.cons_cons _ (List.Sublist.cons _ (List.Sublist.cons_cons _ (List.Sublist.slnil))))) ?_
        refine h_done (by kernel_rfl) ?_
        refine q_cast (F' := [(0, .slice al (l.take (i.toNat + 1) ++ l.drop i.toNat).length cl), (1, .int .i64 i), (2, .slice av v.length cv)]) (H := [outer w0 [own tEntry Sl al cl l, own tEntry Sv av cv v], own tEntry Sl al cl (l.take (i.toNat + 1) ++ l.drop i.toNat), own tEntry Sv av cv v]) (H' := [outer w0 [own tEntry Sl al cl l, own tEntry Sv av cv v], own tEntry Sl al cl (l.take (i.toNat + 1) ++ l.drop i.toNat), own tEntry Sv av cv v]) (Sub.cons rfl (Sub.cons rfl (Sub.cons rfl (Sub.nil _)))) (by rfl) ?_
        refine q_then ?_
        refine c_seq ?_
        refine c_region ?_
        refine o_pure (p_move (v := .slice al (l.take (i.toNat + 1) ++ l.drop i.toNat).length cl) rfl) rfl rfl rfl ?_
        refine o_pure (p_move (v := .int .i64 i) rfl) rfl rfl rfl ?_
        refine o_pure (p_sliceL (L := (l.take (i.toNat + 1) ++ l.drop i.toNat)) (T := tEntry) (l := i) rfl rfl Try.underlying22 sz42 (by first | omega | (simp only [List.length_append, List.length_take, List.length_replicate, List.length_drop, List.length_set]; omega)) (by first | omega | (simp only [List.length_append, List.length_take, List.length_replicate, List.length_drop, List.length_set]; omega)) (rd_own (i := 1) rfl)) rfl rfl rfl ?_
        refine o_pure (p_move (v := .slice av v.length cv) rfl) rfl rfl rfl ?_
        refine o_copy (i := 1) (lo := i.toNat) (M := v) (T := tEntry) (L := (l.take (i.toNat + 1) ++ l.drop i.toNat)) (m := 1) (F' := [(0, .slice al (l.take i.toNat ++ v ++ l.drop i.toNat).length cl)]) rfl rfl rfl (rd_own (i := 2) rfl) (by (try simp only [List.length_append, List.length_take, List.length_replicate, List.length_drop, List.length_set]); omega) Try.underlying22 sz42 (by intro z; simp [tEntry, one1]) (by (try simp only [List.length_append, List.length_take, List.length_replicate, List.length_drop, List.length_set]); omega) rfl (by omega) (Sub.cons (by show some _ = some _; congr 2; first | (simp; omega) | simp) (Sub.nil _)) ?_
        refine o_asH (H := [outer w0 [own tEntry Sl al cl l, own tEntry Sv av cv v], own tEntry Sl al cl ((l.take (i.toNat + 1) ++ l.drop i.toNat).take i.toNat ++ v ++ (l.take (i.toNat + 1) ++ l.drop i.toNat).drop (i.toNat + v.length)), own tEntry Sv av cv v]) (H' := [outer w0 [own tEntry Sl al cl l, own tEntry Sv av cv v], own tEntry Sl al cl (l.take i.toNat ++ v ++ l.drop i.toNat), own tEntry Sv av cv v]) (by have hins : (((l.take (i.toNat + 1) ++ l.drop i.toNat).take i.toNat ++ v ++ (l.take (i.toNat + 1) ++ l.drop i.toNat).drop (i.toNat + v.length)) : List DEntry) = (l.take i.toNat ++ v ++ l.drop i.toNat) := (by exact ins_d (by omega) (by omega)); rw [hins]) ?_
        refine o_nil ?_
        refine q_then ?_
        refine c_seq ?_
        refine c_region ?_
        refine o_pure (p_move (v := .slice al (l.take i.toNat ++ v ++ l.drop i.toNat).length cl) rfl) rfl rfl rfl ?_
        refine o_pure (p_assign (v := .slice al (l.take i.toNat ++ v ++ l.drop i.toNat).length cl) rfl) rfl rfl rfl ?_
        refine o_nil ?_
        refine q_then ?_
        refine c_ret ?_
        refine q_then_ret ?_
        refine q_endX (p := (al, cl, Sl)) (rt1 rfl (r_tmp rfl)) ?_ (fun w hw => ?_)
        · exact rfl
        · have h2 := hw.pick (H' := [outer w0 [own tEntry Sl al cl l, own tEntry Sv av cv v], own tEntry Sl al cl (l.take i.toNat ++ v ++ l.drop i.toNat)]) [0, 1] (by decide) rfl
          exact Eq.mp (congrArg (fun z => HeapIs w0 ((outer w0 [own tEntry Sl al cl l, own tEntry Sv av cv v]) :: z) w) (rfl)) h2
end Go.Proofs.Ytkndekkacimekaa
