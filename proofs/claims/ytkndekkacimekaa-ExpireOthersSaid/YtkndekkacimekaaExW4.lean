/- The walks, printed by a program from the translation and a specification. -/
import Derived.Test.YtkndekkacimekaaExF
import Derived.Test.YtkndekkacimekaaExLaw2
import Derived.Test.YtkndekkacimekaaExW2
namespace Go.Proofs.Ytkndekkacimekaa
open Go.Sx Go.RowKit
set_option maxHeartbeats 8000000 in
set_option maxRecDepth 100000 in
theorem minFunc_ok (l : List DEntry) (al : Option Addr) (cl : Nat) (gf : FuncId) (kf : List Value) (f : DEntry → DEntry → Int) (Pf : World → Prop) (stf : ∀ w w', Below w.heap.size w w' → Pf w → Pf w') (okf : ∀ (x : DEntry) (y : DEntry), Fn0 Try.prog gf (.agg #[.int .i64 x.key, .int .i64 x.value, .int .i64 x.till] :: .agg #[.int .i64 y.key, .int .i64 y.value, .int .i64 y.till] :: kf) Pf (.int .i64 (f x y))) (hpf : HasFn Try.prog gf) (hy1 : 0 < l.length) : Fn0 Try.prog 53 [.slice al l.length cl, .func (.func gf) #[] kf.toArray] (fun w => Rd tEntry w al cl l ∧ Pf w) (.agg #[.int .i64 ((minF f l).key), .int .i64 ((minF f l).value), .int .i64 ((minF f l).till)]) := by
  refine fn0 (nt := 33) (F0 := [(0, .slice al l.length cl), (1, .func (.func gf) #[] kf.toArray)]) Try.func53 rfl Try.ntmps53 rfl rfl (fun w0 hpre => ?_)
  obtain ⟨hl, hf⟩ := hpre
  have hlhl := hl.2.1
  refine c_seq ?_
  refine c_region ?_
  refine o_alloc ze42 rfl (fun B1 => ?_)
  refine o_nil ?_
  refine q_then ?_
  refine c_seq ?_
  refine c_seq ?_
  refine c_region ?_
  refine o_pure (p_move (v := .slice al l.length cl) rfl) rfl rfl rfl ?_
  refine o_pure (p_len_slice (len := l.length) rfl rfl Try.underlying22) rfl rfl rfl ?_
  refine o_pure (p_lt (p := (l.length : Int)) (q := 1) rfl rfl) rfl rfl rfl ?_
  refine o_nil ?_
  refine q_then ?_
  refine c_cond (b := decide ((l.length : Int) < 1)) rfl (fun hc2 => ?_) (fun hc2 => ?_)
  · simp only [decide_eq_true_eq] at hc2
    exfalso; omega
  · simp only [decide_eq_false_iff_not, Int.not_lt] at hc2
    refine c_skip ?_
    refine q_then ?_
    refine c_seq ?_
    refine c_region ?_
    refine o_pure (p_move (v := .slice al l.length cl) rfl) rfl rfl rfl ?_
    refine o_pure (p_indexAddr (L := l) (T := tEntry) (i := 0) rfl rfl (rd_base (i := 1) rfl hl) Try.underlying22 sz42 (by omega) (by omega)) rfl rfl rfl ?_
    refine o_pure (p_loadEn (i := 0) (T := tEntry) (L := l) (vs := [.int .i64 ((l.getD 0 default).key), .int .i64 ((l.getD 0 default).value), .int .i64 ((l.getD 0 default).till)]) rfl (rd_base (i := 1) rfl hl) (by first | assumption | omega) sh42 (congrArg tEntry.enc (getd_at (by first | assumption | omega) default))) rfl rfl rfl ?_
    refine o_alloc ze42 rfl (fun B3 => ?_)
    refine o_storeN (i := 0) (vs := [.int .i64 ((l.getD 0 default).key), .int .i64 ((l.getD 0 default).value), .int .i64 ((l.getD 0 default).till)]) (cs' := [.int .i64 ((l.getD 0 default).key), .int .i64 ((l.getD 0 default).value), .int .i64 ((l.getD 0 default).till)]) rfl rfl rfl sz42 rfl rfl rfl rfl ?_
    refine o_nil ?_
    refine q_then ?_
    refine c_seq ?_
    refine c_seq ?_
    refine c_region ?_
    refine o_pure (p_assign (v := .int .i64 1) rfl) rfl rfl rfl ?_
    refine o_nil ?_
    refine q_then ?_
    refine c_block ?_
    refine c_loop (St := Nat × DEntry)
      (fun ⟨i, mm⟩ => [(0, .slice al l.length cl), (1, .func (.func gf) #[] kf.toArray), (4, .pointer (some ⟨B1, 0, none⟩)), (5, .pointer (some ⟨B3, 0, none⟩)), (6, .int .i64 (i : Int))])
      (fun ⟨i, mm⟩ => [box B3 [.int .i64 mm.key, .int .i64 mm.value, .int .i64 mm.till] 42, box B1 [.int .i64 0, .int .i64 0, .int .i64 0] 42, base w0])
      (fun ⟨i, mm⟩ => 1 ≤ i ∧ i ≤ l.length ∧ mm = minTo f l (i - 1))
      (fun ⟨i, mm⟩ => l.length - i)
      (1, (l.getD 0 default)) ?_ (Sub.cons rfl (Sub.cons rfl (Sub.cons rfl (Sub.cons rfl (Sub.cons rfl (Sub.nil _)))))) (fun _ hw => hw) ?_
    · exact ⟨Nat.le_refl _, by omega, rfl⟩
    rintro ⟨i, mm⟩ hI K hK4
    show SC _ _ Try.prog 33 w0 _ _ [(0, .slice al l.length cl), (1, .func (.func gf) #[] kf.toArray), (4, .pointer (some ⟨B1, 0, none⟩)), (5, .pointer (some ⟨B3, 0, none⟩)), (6, .int .i64 (i : Int))] [box B3 [.int .i64 mm.key, .int .i64 mm.value, .int .i64 mm.till] 42, box B1 [.int .i64 0, .int .i64 0, .int .i64 0] 42, base w0]
    refine c_seq ?_
    refine c_seq ?_
    refine c_region ?_
    refine o_pure (p_move (v := .int .i64 (i : Int)) rfl) rfl rfl rfl ?_
    refine o_pure (p_move (v := .slice al l.length cl) rfl) rfl rfl rfl ?_
    refine o_pure (p_len_slice (len := l.length) rfl rfl Try.underlying22) rfl rfl rfl ?_
    refine o_pure (p_lt (p := (i : Int)) (q := (l.length : Int)) rfl rfl) rfl rfl rfl ?_
    refine o_nil ?_
    refine q_then ?_
    refine c_cond (b := decide ((i : Int) < (l.length : Int))) rfl (fun hc5 => ?_) (fun hc5 => ?_)
    · simp only [decide_eq_true_eq] at hc5
      refine c_skip ?_
      refine q_then ?_
      refine c_seq ?_
      refine c_block ?_
      refine c_seq ?_
      refine c_held hmix [box B3 [.int .i64 mm.key, .int .i64 mm.value, .int .i64 mm.till] 42, box B1 [.int .i64 0, .int .i64 0, .int .i64 0] 42, base w0] rfl rfl ?_
      refine h_take (i := 0) (ls := #[true, false, false, false, false, false, false, false]) rfl (by kernel_rfl) (by kernel_rfl) (by kernel_rfl) (fun _ _ _ h => h) (p_move (v := .func (.func gf) #[] kf.toArray) rfl) rfl rfl rfl (fun _ hw => HeapIs.drop hw (List.Sublist.refl _)) rfl ?_
      refine h_take (i := 1) (ls := #[true, true, false, false, false, false, false, false]) rfl (by kernel_rfl) (by kernel_rfl) (by kernel_rfl) (fun _ _ _ h => h) (p_move (v := .slice al l.length cl) rfl) rfl rfl rfl (fun _ hw => HeapIs.drop hw (List.Sublist.refl _)) rfl ?_
      refine h_take (i := 2) (ls := #[true, true, true, false, false, false, false, false]) rfl (by kernel_rfl) (by kernel_rfl) (by kernel_rfl) (fun _ _ _ h => h) (p_move (v := .int .i64 (i : Int)) rfl) rfl rfl rfl (fun _ hw => HeapIs.drop hw (List.Sublist.refl _)) rfl ?_
      refine h_take (i := 3) (ls := #[true, true, true, true, false, false, false, false]) rfl (by kernel_rfl) (by kernel_rfl) (by kernel_rfl) (fun _ _ _ h => h) (p_indexAddr (L := l) (T := tEntry) (i := (i : Int)) rfl rfl (rd_base (i := 2) rfl hl) Try.underlying22 sz42 (by omega) (by omega)) rfl rfl rfl (fun _ hw => HeapIs.drop hw (List.Sublist.refl _)) rfl ?_
      refine h_take (i := 4) (ls := #[true, true, true, true, true, false, false, false]) rfl (by kernel_rfl) (by kernel_rfl) (by kernel_rfl) (fun _ _ _ h => h) (p_loadEn (i := i) (T := tEntry) (L := l) (vs := [.int .i64 ((l.getD i default).key), .int .i64 ((l.getD i default).value), .int .i64 ((l.getD i default).till)]) rfl (rd_base (i := 2) rfl hl) (by first | assumption | omega) sh42 (congrArg tEntry.enc (getd_at (by first | assumption | omega) default))) rfl rfl rfl (fun _ hw => HeapIs.drop hw (List.Sublist.refl _)) rfl ?_
      refine h_take (i := 5) (ls := #[true, true, true, true, true, true, false, false]) rfl (by kernel_rfl) (by kernel_rfl) (by kernel_rfl) (fun _ _ _ h => h) (p_load_agg (i := 0) (vs := [.int .i64 mm.key, .int .i64 mm.value, .int .i64 mm.till]) rfl rfl sh42 rfl rfl) rfl rfl rfl (fun _ hw => HeapIs.drop hw (List.Sublist.refl _)) rfl ?_
      refine h_one (i := 6) (ls := #[true, true, true, true, true, true, true, false]) (by kernel_rfl) rfl rfl ?_
      refine o_call0V (vs := [.agg #[.int .i64 ((l.getD i default).key), .int .i64 ((l.getD i default).value), .int .i64 ((l.getD i default).till)], .agg #[.int .i64 mm.key, .int .i64 mm.value, .int .i64 mm.till]]) (caps := kf) (v := .int .i64 (f (l.getD i default) mm)) rfl rfl (okf (l.getD i default) mm) hpf (pre_base (i := 2) rfl stf hf) rfl ?_
      refine o_nil ?_
      refine h_next (fun _ hw => HeapIs.drop hw (List.Sublist.refl _)) ?_
      refine h_take (i := 7) (ls := #[true, true, true, true, true, true, true, true]) rfl (by kernel_rfl) (by kernel_rfl) (by kernel_rfl) (fun _ _ _ h => h) (p_lt (p := (f (l.getD i default) mm)) (q := 0) rfl rfl) rfl rfl rfl (fun _ hw => HeapIs.drop hw (List.Sublist.refl _)) rfl ?_
      refine h_done (by kernel_rfl) ?_
      refine q_then ?_
      refine c_cond (b := decide ((f (l.getD i default) mm) < 0)) rfl (fun hc7 => ?_) (fun hc7 => ?_)
      · simp only [decide_eq_true_eq] at hc7
        refine c_region ?_
        refine o_pure (p_move (v := .slice al l.length cl) rfl) rfl rfl rfl ?_
        refine o_pure (p_move (v := .int .i64 (i : Int)) rfl) rfl rfl rfl ?_
        refine o_pure (p_indexAddr (L := l) (T := tEntry) (i := (i : Int)) rfl rfl (rd_base (i := 2) rfl hl) Try.underlying22 sz42 (by omega) (by omega)) rfl rfl rfl ?_
        refine o_pure (p_loadEn (i := i) (T := tEntry) (L := l) (vs := [.int .i64 ((l.getD i default).key), .int .i64 ((l.getD i default).value), .int .i64 ((l.getD i default).till)]) rfl (rd_base (i := 2) rfl hl) (by first | assumption | omega) sh42 (congrArg tEntry.enc (getd_at (by first | assumption | omega) default))) rfl rfl rfl ?_
        refine o_storeN (i := 0) (vs := [.int .i64 ((l.getD i default).key), .int .i64 ((l.getD i default).value), .int .i64 ((l.getD i default).till)]) (cs' := [.int .i64 ((l.getD i default).key), .int .i64 ((l.getD i default).value), .int .i64 ((l.getD i default).till)]) rfl rfl rfl sz42 rfl rfl rfl rfl ?_
        refine o_nil ?_
        refine q_block_normal (q_then ?_)
        refine c_region ?_
        refine o_pure (p_move (v := .int .i64 (i : Int)) rfl) rfl rfl rfl ?_
        refine o_pure (p_addb (p := (i : Int)) (q := 1) rfl rfl (by omega)) rfl rfl rfl ?_
        refine o_pure (p_assign (v := .int .i64 ((i : Int) + 1)) rfl) rfl rfl rfl ?_
        refine o_nil ?_
        refine q_round hK4 (i + 1, (l.getD i default)) ?_ ?_ ?_ ?_
        · clear hK4
          first | exact ⟨by omega, by omega, min_yes hI.2.2 hI.1 (by assumption)⟩ | exact ⟨by omega, by omega, min_no hI.2.2 hI.1 (by assumption)⟩
        · (try dsimp only); omega
        · exact Sub.cons rfl (Sub.cons rfl (Sub.cons rfl (Sub.cons rfl (Sub.cons rfl (Sub.nil _)))))
        · exact fun _ hw => HeapIs.pick hw [0, 1, 2] (by decide) rfl
      · simp only [decide_eq_false_iff_not, Int.not_lt] at hc7
        refine c_skip ?_
        refine q_block_normal (q_then ?_)
        refine c_region ?_
        refine o_pure (p_move (v := .int .i64 (i : Int)) rfl) rfl rfl rfl ?_
        refine o_pure (p_addb (p := (i : Int)) (q := 1) rfl rfl (by omega)) rfl rfl rfl ?_
        refine o_pure (p_assign (v := .int .i64 ((i : Int) + 1)) rfl) rfl rfl rfl ?_
        refine o_nil ?_
        refine q_round hK4 (i + 1, mm) ?_ ?_ ?_ ?_
        · clear hK4
          first | exact ⟨by omega, by omega, min_yes hI.2.2 hI.1 (by assumption)⟩ | exact ⟨by omega, by omega, min_no hI.2.2 hI.1 (by assumption)⟩
        · (try dsimp only); omega
        · exact Sub.cons rfl (Sub.cons rfl (Sub.cons rfl (Sub.cons rfl (Sub.cons rfl (Sub.nil _)))))
        · exact fun _ hw => HeapIs.pick hw [0, 1, 2] (by decide) rfl
    · simp only [decide_eq_false_iff_not, Int.not_lt] at hc5
      refine c_exit ?_
      refine q_then_exit (q_then_exit (q_block_exit (q_then ?_)))
      refine c_seq ?_
      refine c_region ?_
      refine o_pure (p_load_agg (i := 0) (vs := [.int .i64 mm.key, .int .i64 mm.value, .int .i64 mm.till]) rfl rfl sh42 rfl rfl) rfl rfl rfl ?_
      refine o_storeN (i := 1) (vs := [.int .i64 mm.key, .int .i64 mm.value, .int .i64 mm.till]) (cs' := [.int .i64 mm.key, .int .i64 mm.value, .int .i64 mm.till]) rfl rfl rfl sz42 rfl rfl rfl rfl ?_
      refine o_nil ?_
      refine q_then ?_
      refine c_ret ?_
      have hm := min_done hI.2.2 (by omega) hI.2.1
      have hr0 : (mm.key : Int) = (minF f l).key := by
        rw [hm]
      have hr1 : (mm.value : Int) = (minF f l).value := by
        rw [hm]
      have hr2 : (mm.till : Int) = (minF f l).till := by
        rw [hm]
      refine q_end0 (v := .agg #[.int .i64 mm.key, .int .i64 mm.value, .int .i64 mm.till]) (rt1 rfl (r_cell (i := 1) rfl rfl sh42 rfl)) (i := 2) rfl ?_
      exact (by have hcc := congr (congr (congrArg (fun (y0 : Int) (y1 : Int) (y2 : Int) => (.agg #[.int .i64 y0, .int .i64 y1, .int .i64 y2] : Value)) hr0) hr1) hr2; exact hcc)

set_option maxHeartbeats 8000000 in
set_option maxRecDepth 100000 in
theorem enext1_ok (x : DEntry) (y : DEntry) : Fn0 Try.prog 54 [.agg #[.int .i64 x.key, .int .i64 x.value, .int .i64 x.till], .agg #[.int .i64 y.key, .int .i64 y.value, .int .i64 y.till]] (fun _ => True) (.int .i64 (cmpI x.till y.till)) := by
  refine fn0 (nt := 10) (F0 := [(0, .agg #[.int .i64 x.key, .int .i64 x.value, .int .i64 x.till]), (1, .agg #[.int .i64 y.key, .int .i64 y.value, .int .i64 y.till])]) Try.func54 rfl Try.ntmps54 rfl rfl (fun w0 hpre => ?_)
  refine c_seq ?_
  refine c_region ?_
  refine o_box (v := .agg #[.int .i64 x.key, .int .i64 x.value, .int .i64 x.till]) rfl rfl (fun B1 => ?_)
  refine o_box (v := .agg #[.int .i64 y.key, .int .i64 y.value, .int .i64 y.till]) rfl rfl (fun B2 => ?_)
  refine o_pure (p_assign (v := .int .i64 0) rfl) rfl rfl rfl ?_
  refine o_nil ?_
  refine q_then ?_
  refine c_seq ?_
  refine c_region ?_
  refine o_pure (p_fieldAddr (B := B1) (j := 0) (j' := 2) rfl fo42_2 rfl) rfl rfl rfl ?_
  refine o_pure (p_load (i := 1) (v := .int .i64 x.till) rfl rfl sh3 rfl) rfl rfl rfl ?_
  refine o_pure (p_fieldAddr (B := B2) (j := 0) (j' := 2) rfl fo42_2 rfl) rfl rfl rfl ?_
  refine o_pure (p_load (i := 0) (v := .int .i64 y.till) rfl rfl sh3 rfl) rfl rfl rfl ?_
  refine o_call0 (v := .int .i64 (cmpI x.till y.till)) rfl (compare_ok x.till y.till) hf55 (fun _ _ => trivial) rfl ?_
  refine o_pure (p_assign (v := .int .i64 (cmpI x.till y.till)) rfl) rfl rfl rfl ?_
  refine o_nil ?_
  refine q_then ?_
  refine c_ret ?_
  refine q_end0 (v := .int .i64 (cmpI x.till y.till)) (rt1 rfl (r_tmp rfl)) (i := 2) rfl ?_
  exact rfl
end Go.Proofs.Ytkndekkacimekaa
