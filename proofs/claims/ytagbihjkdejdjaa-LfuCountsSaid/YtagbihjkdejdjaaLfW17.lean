/- The walks, printed by a program from the translation and a specification. -/
import Derived.Test.YtagbihjkdejdjaaLfF
import Derived.Test.YtagbihjkdejdjaaLfLaw5
import Derived.Test.YtagbihjkdejdjaaLfW14
import Derived.Test.YtagbihjkdejdjaaLfW8
namespace Go.Proofs.Ytagbihjkdejdjaa
open Go.Sx Go.RowKit
set_option maxHeartbeats 8000000 in
set_option maxRecDepth 100000 in
theorem lfuCounts_ok (room : Int) (l : List Int) (al : Option Addr) (cl : Nat) (hy1 : l.length ≤ 17592186044416) : Fn0 Try.prog 5 [.int .i64 room, .slice al l.length cl] (fun w => Rd tInt w al cl l) (.bool true) := by
  refine fn0 (nt := 100) (F0 := [(0, .int .i64 room), (1, .slice al l.length cl)]) Try.func5 rfl Try.ntmps5 rfl rfl (fun w0 hpre => ?_)
  have hl := hpre
  have hlhl := hl.2.1
  refine c_seq ?_
  refine c_region ?_
  refine o_pure (p_assign (v := .bool false) rfl) rfl rfl rfl ?_
  refine o_nil ?_
  refine q_then ?_
  refine c_seq ?_
  refine c_region ?_
  refine o_pure (p_move (v := .int .i64 room) rfl) rfl rfl rfl ?_
  refine o_pure (p_build (cells := [.int .i64 room, .slice none 0 0]) fp24 ze24 rfl rfl) rfl rfl rfl ?_
  refine o_pure (p_move (v := .slice al l.length cl) rfl) rfl rfl rfl ?_
  refine o_callM rfl (frun_ok (⟨room, []⟩ : DUses) none 0 l al cl) hf16 (fun w hw => ⟨rd_nil w hw, (rd_base (i := 0) rfl hl) w hw⟩) rfl (fun _ _ _ _ ha hA => SlO.agree ha hA) ?_
  rintro ⟨a3, c4⟩ S1
  refine o_know (fun w hw => own_len (i := 0) (T := tUse) hw rfl) (fun hlr5 => ?_)
  refine o_pure (p_move (v := .tuple #[.agg #[.int .i64 (((Lfu.run (⟨room, []⟩ : DUses) l).1).room), .slice a3 (((Lfu.run (⟨room, []⟩ : DUses) l).1).list).length c4], .int .i64 ((Lfu.run (⟨room, []⟩ : DUses) l).2), .int .i64 (Lfu.runErr (⟨room, []⟩ : DUses) l)]) rfl) rfl rfl rfl ?_
  refine o_pure (p_extract (vs := [.agg #[.int .i64 (((Lfu.run (⟨room, []⟩ : DUses) l).1).room), .slice a3 (((Lfu.run (⟨room, []⟩ : DUses) l).1).list).length c4], .int .i64 ((Lfu.run (⟨room, []⟩ : DUses) l).2), .int .i64 (Lfu.runErr (⟨room, []⟩ : DUses) l)]) (v := .agg #[.int .i64 (((Lfu.run (⟨room, []⟩ : DUses) l).1).room), .slice a3 (((Lfu.run (⟨room, []⟩ : DUses) l).1).list).length c4]) rfl rfl) rfl rfl rfl ?_
  refine o_pure (p_extract (vs := [.agg #[.int .i64 (((Lfu.run (⟨room, []⟩ : DUses) l).1).room), .slice a3 (((Lfu.run (⟨room, []⟩ : DUses) l).1).list).length c4], .int .i64 ((Lfu.run (⟨room, []⟩ : DUses) l).2), .int .i64 (Lfu.runErr (⟨room, []⟩ : DUses) l)]) (v := .int .i64 ((Lfu.run (⟨room, []⟩ : DUses) l).2)) rfl rfl) rfl rfl rfl ?_
  refine o_pure (p_extract (vs := [.agg #[.int .i64 (((Lfu.run (⟨room, []⟩ : DUses) l).1).room), .slice a3 (((Lfu.run (⟨room, []⟩ : DUses) l).1).list).length c4], .int .i64 ((Lfu.run (⟨room, []⟩ : DUses) l).2), .int .i64 (Lfu.runErr (⟨room, []⟩ : DUses) l)]) (v := .int .i64 (Lfu.runErr (⟨room, []⟩ : DUses) l)) rfl rfl) rfl rfl rfl ?_
  refine o_alloc ze24 rfl (fun B6 => ?_)
  refine o_storeN (i := 0) (vs := [.int .i64 (((Lfu.run (⟨room, []⟩ : DUses) l).1).room), .slice a3 (((Lfu.run (⟨room, []⟩ : DUses) l).1).list).length c4]) (cs' := [.int .i64 (((Lfu.run (⟨room, []⟩ : DUses) l).1).room), .slice a3 (((Lfu.run (⟨room, []⟩ : DUses) l).1).list).length c4]) rfl rfl rfl sz24 rfl rfl rfl rfl ?_
  refine o_pure (p_assign (v := .int .i64 ((Lfu.run (⟨room, []⟩ : DUses) l).2)) rfl) rfl rfl rfl ?_
  refine o_pure (p_assign (v := .int .i64 (Lfu.runErr (⟨room, []⟩ : DUses) l)) rfl) rfl rfl rfl ?_
  refine o_nil ?_
  refine q_then ?_
  refine c_seq ?_
  refine c_seq ?_
  refine c_region ?_
  refine o_call0 (v := .bool true) rfl (lfuBegun_ok ) hf24 (fun _ _ => trivial) rfl ?_
  refine o_pure (p_not (b := true) rfl) rfl rfl rfl ?_
  refine o_nil ?_
  refine q_then ?_
  refine c_false rfl ?_
  refine c_skip ?_
  refine q_then ?_
  refine c_seq ?_
  refine c_region ?_
  refine o_pure (p_assign (v := .slice none 0 0) rfl) rfl rfl rfl ?_
  refine o_nil ?_
  refine q_then ?_
  refine c_seq ?_
  refine c_seq ?_
  refine c_region ?_
  refine o_pure (p_assign (v := .int .i64 0) rfl) rfl rfl rfl ?_
  refine o_nil ?_
  refine q_then ?_
  refine c_block ?_
  refine c_ownNil tInt ?_
  refine c_loop (St := List Int × Option Addr × Nat × (Nat → Prop) × Nat)
    (fun ⟨unlike, aunlike, cunlike, Sunlike, i⟩ => [(0, .int .i64 room), (1, .slice al l.length cl), (5, .pointer (some ⟨B6, 0, none⟩)), (6, .int .i64 ((Lfu.run (⟨room, []⟩ : DUses) l).2)), (7, .int .i64 (Lfu.runErr (⟨room, []⟩ : DUses) l)), (8, .slice aunlike unlike.length cunlike), (9, .int .i64 (i : Int))])
    (fun ⟨unlike, aunlike, cunlike, Sunlike, i⟩ => [own tInt Sunlike aunlike cunlike unlike, box B6 [.int .i64 (((Lfu.run (⟨room, []⟩ : DUses) l).1).room), .slice a3 (((Lfu.run (⟨room, []⟩ : DUses) l).1).list).length c4] 24, own tUse S1 a3 c4 (((Lfu.run (⟨room, []⟩ : DUses) l).1).list), base w0])
    (fun ⟨unlike, aunlike, cunlike, Sunlike, i⟩ => i ≤ l.length ∧ unlike = Deep.uniq (l.take i))
    (fun ⟨unlike, aunlike, cunlike, Sunlike, i⟩ => l.length - i)
    ([], none, 0, (fun _ => False), 0) ?_ (Sub.cons rfl (Sub.cons rfl (Sub.cons rfl (Sub.cons rfl (Sub.cons rfl (Sub.cons rfl (Sub.cons rfl (Sub.nil _)))))))) (fun _ hw => hw) ?_
  · exact ⟨Nat.zero_le _, rfl⟩
  rintro ⟨unlike, aunlike, cunlike, Sunlike, i⟩ hI K hK8
  have hul0 : unlike.length ≤ i := by rw [hI.2]; exact Deep.uniq_take l i
  show SC _ _ Try.prog 100 w0 _ _ [(0, .int .i64 room), (1, .slice al l.length cl), (5, .pointer (some ⟨B6, 0, none⟩)), (6, .int .i64 ((Lfu.run (⟨room, []⟩ : DUses) l).2)), (7, .int .i64 (Lfu.runErr (⟨room, []⟩ : DUses) l)), (8, .slice aunlike unlike.length cunlike), (9, .int .i64 (i : Int))] [own tInt Sunlike aunlike cunlike unlike, box B6 [.int .i64 (((Lfu.run (⟨room, []⟩ : DUses) l).1).room), .slice a3 (((Lfu.run (⟨room, []⟩ : DUses) l).1).list).length c4] 24, own tUse S1 a3 c4 (((Lfu.run (⟨room, []⟩ : DUses) l).1).list), base w0]
  refine c_seq ?_
  refine c_seq ?_
  refine c_region ?_
  refine o_pure (p_move (v := .int .i64 (i : Int)) rfl) rfl rfl rfl ?_
  refine o_pure (p_move (v := .slice al l.length cl) rfl) rfl rfl rfl ?_
  refine o_pure (p_len_slice (len := l.length) rfl rfl Try.underlying25) rfl rfl rfl ?_
  refine o_pure (p_lt (p := (i : Int)) (q := (l.length : Int)) rfl rfl) rfl rfl rfl ?_
  refine o_nil ?_
  refine q_then ?_
  refine c_cond (b := decide ((i : Int) < (l.length : Int))) rfl (fun hc9 => ?_) (fun hc9 => ?_)
  · simp only [decide_eq_true_eq] at hc9
    refine c_skip ?_
    refine q_then ?_
    refine c_seq ?_
    refine c_block ?_
    refine c_seq ?_
    refine c_region ?_
    refine o_pure (p_move (v := .slice aunlike unlike.length cunlike) rfl) rfl rfl rfl ?_
    refine o_pure (p_move (v := .slice al l.length cl) rfl) rfl rfl rfl ?_
    refine o_pure (p_move (v := .int .i64 (i : Int)) rfl) rfl rfl rfl ?_
    refine o_pure (p_indexAddr (L := l) (T := tInt) (i := (i : Int)) rfl rfl (rd_base (i := 3) rfl hl) Try.underlying25 sz3 (by omega) (by omega)) rfl rfl rfl ?_
    refine o_pure (p_loadE1 (i := i) (T := tInt) (L := l) (v := .int .i64 (l[i])) rfl (rd_base (i := 3) rfl hl) (by first | assumption | omega) sh3 rfl) rfl rfl rfl ?_
    refine o_call0 (v := .bool (Ref.hasInt unlike (l[i]))) rfl (hasInt_ok unlike aunlike cunlike (l[i])) hf27 (fun w hw => (rd_own (i := 0) rfl) w hw) rfl ?_
    refine o_pure (p_not (b := (Ref.hasInt unlike (l[i]))) rfl) rfl rfl rfl ?_
    refine o_nil ?_
    refine q_then ?_
    refine c_cond (b := (!(Ref.hasInt unlike (l[i])))) rfl (fun hc10 => ?_) (fun hc10 => ?_)
    · simp only [Bool.not_eq_true'] at hc10
      refine c_region ?_
      refine o_pure (p_move (v := .slice aunlike unlike.length cunlike) rfl) rfl rfl rfl ?_
      refine o_pure (p_move (v := .slice al l.length cl) rfl) rfl rfl rfl ?_
      refine o_pure (p_move (v := .int .i64 (i : Int)) rfl) rfl rfl rfl ?_
      refine o_pure (p_indexAddr (L := l) (T := tInt) (i := (i : Int)) rfl rfl (rd_base (i := 3) rfl hl) Try.underlying25 sz3 (by omega) (by omega)) rfl rfl rfl ?_
      refine o_pure (p_loadE1 (i := i) (T := tInt) (L := l) (v := .int .i64 (l[i])) rfl (rd_base (i := 3) rfl hl) (by first | assumption | omega) sh3 rfl) rfl rfl rfl ?_
      refine o_buildSlice (m := 1) (T := tInt) (L := [l[i]]) (vs := [.int .i64 (l[i])]) rfl rfl rfl rfl Try.underlying25 sz3 (by decide) ze3 rfl (by decide) rfl (fun S11 a12 => ?_)
      refine o_append (i := 1) (L := unlike) (M := [l[i]]) (T := tInt) rfl rfl rfl (rd_own (i := 0) rfl) Try.underlying25 Try.underlying25 (by intro k h; cases h) el3 (by intro z; simp [tInt, one1]) (by decide) (by first | omega | (simp only [List.length_cons, List.length_nil]; omega) | (simp only [List.length_append, List.length_cons, List.length_nil, List.length_take, List.length_drop]; omega)) rfl (fun a14 c15 S16 => ?_)
      refine o_pure (p_assign (v := .slice a14 (unlike ++ [l[i]]).length c15) rfl) rfl rfl rfl ?_
      refine o_nil ?_
      refine q_block_normal (q_then ?_)
      refine c_region ?_
      refine o_pure (p_move (v := .int .i64 (i : Int)) rfl) rfl rfl rfl ?_
      refine o_pure (p_addb (p := (i : Int)) (q := 1) rfl rfl (by omega)) rfl rfl rfl ?_
      refine o_pure (p_assign (v := .int .i64 ((i : Int) + 1)) rfl) rfl rfl rfl ?_
      refine o_nil ?_
      refine q_round hK8 ((unlike ++ [l[i]]), a14, c15, S16, i + 1) ?_ ?_ ?_ ?_
      · clear hK8
        first | exact ⟨by omega, (Deep.take_uniq hI.2 (by omega)).1 (by assumption)⟩ | exact ⟨by omega, (Deep.take_uniq hI.2 (by omega)).2 (by assumption)⟩
      · (try dsimp only); omega
      · exact Sub.cons rfl (Sub.cons rfl (Sub.cons rfl (Sub.cons rfl (Sub.cons rfl (Sub.cons rfl (Sub.cons rfl (Sub.nil _)))))))
      · exact fun _ hw => HeapIs.pick hw [1, 2, 3, 4] (by decide) rfl
    · simp only [Bool.not_eq_false'] at hc10
      refine c_skip ?_
      refine q_block_normal (q_then ?_)
      refine c_region ?_
      refine o_pure (p_move (v := .int .i64 (i : Int)) rfl) rfl rfl rfl ?_
      refine o_pure (p_addb (p := (i : Int)) (q := 1) rfl rfl (by omega)) rfl rfl rfl ?_
      refine o_pure (p_assign (v := .int .i64 ((i : Int) + 1)) rfl) rfl rfl rfl ?_
      refine o_nil ?_
      refine q_round hK8 (unlike, aunlike, cunlike, Sunlike, i + 1) ?_ ?_ ?_ ?_
      · clear hK8
        first | exact ⟨by omega, (Deep.take_uniq hI.2 (by omega)).1 (by assumption)⟩ | exact ⟨by omega, (Deep.take_uniq hI.2 (by omega)).2 (by assumption)⟩
      · (try dsimp only); omega
      · exact Sub.cons rfl (Sub.cons rfl (Sub.cons rfl (Sub.cons rfl (Sub.cons rfl (Sub.cons rfl (Sub.cons rfl (Sub.nil _)))))))
      · exact fun _ hw => HeapIs.pick hw [0, 1, 2, 3] (by decide) rfl
  · simp only [decide_eq_false_iff_not, Int.not_lt] at hc9
    refine c_exit ?_
    refine q_then_exit (q_then_exit (q_block_exit (q_then ?_)))
    refine c_seq ?_
    refine c_seq ?_
    refine c_region ?_
    refine o_pure (p_move (v := .int .i64 (Lfu.runErr (⟨room, []⟩ : DUses) l)) rfl) rfl rfl rfl ?_
    refine o_pure (p_ne (p := (Lfu.runErr (⟨room, []⟩ : DUses) l)) (q := 0) rfl rfl) rfl rfl rfl ?_
    refine o_pure (p_move (v := .bool ((Lfu.runErr (⟨room, []⟩ : DUses) l) != 0)) rfl) rfl rfl rfl ?_
    refine o_or (p := 50) 5 (decide (room < (unlike.length : Int))) ?_ ?_ ?_
    · intro hb17 hk
      simp only [bne_eq_false_iff_eq] at hb17
      refine o_unguard 45 rfl rfl ?_
      refine o_pure (p_move (v := .slice aunlike unlike.length cunlike) rfl) rfl rfl rfl ?_
      refine o_unguard 45 rfl rfl ?_
      refine o_pure (p_len_slice (len := unlike.length) rfl rfl Try.underlying25) rfl rfl rfl ?_
      refine o_unguard 45 rfl rfl ?_
      refine o_pure (p_move (v := .int .i64 room) rfl) rfl rfl rfl ?_
      refine o_unguard 45 rfl rfl ?_
      refine o_pure (p_gt (p := (unlike.length : Int)) (q := room) rfl rfl) rfl rfl rfl ?_
      refine o_pure (p_pick_false (v := .bool (decide (room < (unlike.length : Int)))) rfl rfl) rfl rfl rfl ?_
      exact o_sub (Sub.cons rfl (Sub.skip rfl (Sub.skip rfl (Sub.skip rfl (Sub.skip rfl (Sub.skip rfl (Sub.skip rfl (Sub.refl _)))))))) hk
    · intro hb17 hk
      refine o_guard_no rfl 45 rfl rfl rfl rfl rfl ?_
      refine o_guard_no rfl 45 rfl rfl rfl rfl rfl ?_
      refine o_guard_no rfl 45 rfl rfl rfl rfl rfl ?_
      refine o_guard_no rfl 45 rfl rfl rfl rfl rfl ?_
      refine o_pure (p_pick_true (u := .bool true) rfl rfl) rfl rfl rfl ?_
      exact o_sub (Sub.cons rfl (Sub.skip rfl (Sub.skip rfl (Sub.skip rfl (Sub.skip rfl (Sub.skip rfl (Sub.skip rfl (Sub.refl _)))))))) hk
    refine o_nil ?_
    refine q_then ?_
    refine c_cond (b := (((Lfu.runErr (⟨room, []⟩ : DUses) l) != 0) || decide (room < (unlike.length : Int)))) rfl (fun hc18 => ?_) (fun hc18 => ?_)
    · simp only [Bool.or_eq_true, bne_iff_ne, ne_eq, decide_eq_true_eq] at hc18
      refine c_seq ?_
      refine c_region ?_
      refine o_pure (p_assign (v := .bool true) rfl) rfl rfl rfl ?_
      refine o_nil ?_
      refine q_then ?_
      refine c_ret ?_
      refine q_then_ret ?_
      refine q_end0 (v := .bool true) (rt1 rfl (r_tmp rfl)) (i := 3) rfl ?_
      exact rfl
    · simp only [Bool.or_eq_false_iff, bne_eq_false_iff_eq, decide_eq_false_iff_not, Int.not_lt] at hc18
      have hrun : Lfu.runErr ⟨room, []⟩ l = 0 := by simp_all
      have hun := hI.2
      have hul : unlike = Deep.uniq l := by rw [hI.2, List.take_of_length_le (by omega)]
      have hur : ((Deep.uniq l).length : Int) ≤ room := by rw [← hul]; simp_all
      obtain ⟨hct1, hct2, hct3⟩ := Lfu.counts hrun hur
      refine c_skip ?_
      refine q_then ?_
      refine c_seq ?_
      refine c_seq ?_
      refine c_region ?_
      refine o_pure (p_assign (v := .int .i64 0) rfl) rfl rfl rfl ?_
      refine o_nil ?_
      refine q_then ?_
      refine c_block ?_
      refine c_loop (St := Nat)
        (fun i2 => [(1, .slice al l.length cl), (5, .pointer (some ⟨B6, 0, none⟩)), (6, .int .i64 ((Lfu.run (⟨room, []⟩ : DUses) l).2)), (8, .slice aunlike unlike.length cunlike), (10, .int .i64 (i2 : Int))])
        (fun i2 => [own tInt Sunlike aunlike cunlike unlike, box B6 [.int .i64 (((Lfu.run (⟨room, []⟩ : DUses) l).1).room), .slice a3 (((Lfu.run (⟨room, []⟩ : DUses) l).1).list).length c4] 24, own tUse S1 a3 c4 (((Lfu.run (⟨room, []⟩ : DUses) l).1).list), base w0])
        (fun i2 => i2 ≤ (Lfu.run ⟨room, []⟩ l).1.list.length)
        (fun i2 => (Lfu.run ⟨room, []⟩ l).1.list.length - i2)
        0 ?_ (Sub.cons rfl (Sub.cons rfl (Sub.cons rfl (Sub.cons rfl (Sub.cons rfl (Sub.nil _)))))) (fun _ hw => hw) ?_
      · exact Nat.zero_le _
      rintro i2 hI K hK19
      show SC _ _ Try.prog 100 w0 _ _ [(1, .slice al l.length cl), (5, .pointer (some ⟨B6, 0, none⟩)), (6, .int .i64 ((Lfu.run (⟨room, []⟩ : DUses) l).2)), (8, .slice aunlike unlike.length cunlike), (10, .int .i64 (i2 : Int))] [own tInt Sunlike aunlike cunlike unlike, box B6 [.int .i64 (((Lfu.run (⟨room, []⟩ : DUses) l).1).room), .slice a3 (((Lfu.run (⟨room, []⟩ : DUses) l).1).list).length c4] 24, own tUse S1 a3 c4 (((Lfu.run (⟨room, []⟩ : DUses) l).1).list), base w0]
      refine c_seq ?_
      refine c_seq ?_
      refine c_region ?_
      refine o_pure (p_move (v := .int .i64 (i2 : Int)) rfl) rfl rfl rfl ?_
      refine o_pure (p_fieldAddr (B := B6) (j := 0) (j' := 1) rfl fo24_1 rfl) rfl rfl rfl ?_
      refine o_pure (p_load (i := 1) (v := .slice a3 (((Lfu.run (⟨room, []⟩ : DUses) l).1).list).length c4) rfl rfl sh22 rfl) rfl rfl rfl ?_
      refine o_pure (p_len_slice (len := (((Lfu.run (⟨room, []⟩ : DUses) l).1).list).length) rfl rfl Try.underlying22) rfl rfl rfl ?_
      refine o_pure (p_lt (p := (i2 : Int)) (q := ((((Lfu.run (⟨room, []⟩ : DUses) l).1).list).length : Int)) rfl rfl) rfl rfl rfl ?_
      refine o_nil ?_
      refine q_then ?_
      refine c_cond (b := decide ((i2 : Int) < ((((Lfu.run (⟨room, []⟩ : DUses) l).1).list).length : Int))) rfl (fun hc20 => ?_) (fun hc20 => ?_)
      · simp only [decide_eq_true_eq] at hc20
        refine c_skip ?_
        refine q_then ?_
        refine c_seq ?_
        refine c_block ?_
        refine c_seq ?_
        refine c_region ?_
        refine o_pure (p_assign (v := .int .i64 0) rfl) rfl rfl rfl ?_
        refine o_nil ?_
        refine q_then ?_
        refine c_seq ?_
        refine c_seq ?_
        refine c_region ?_
        refine o_pure (p_assign (v := .int .i64 0) rfl) rfl rfl rfl ?_
        refine o_nil ?_
        refine q_then ?_
        refine c_block ?_
        refine c_loop (St := Int × Nat)
          (fun ⟨many, k⟩ => [(1, .slice al l.length cl), (5, .pointer (some ⟨B6, 0, none⟩)), (6, .int .i64 ((Lfu.run (⟨room, []⟩ : DUses) l).2)), (8, .slice aunlike unlike.length cunlike), (10, .int .i64 (i2 : Int)), (11, .int .i64 many), (12, .int .i64 (k : Int))])
          (fun ⟨many, k⟩ => [own tInt Sunlike aunlike cunlike unlike, box B6 [.int .i64 (((Lfu.run (⟨room, []⟩ : DUses) l).1).room), .slice a3 (((Lfu.run (⟨room, []⟩ : DUses) l).1).list).length c4] 24, own tUse S1 a3 c4 (((Lfu.run (⟨room, []⟩ : DUses) l).1).list), base w0])
          (fun ⟨many, k⟩ => k ≤ l.length ∧ many = ((l.take k).count ((Lfu.run ⟨room, []⟩ l).1.list[i2]).key : Nat))
          (fun ⟨many, k⟩ => l.length - k)
          (0, 0) ?_ (Sub.cons rfl (Sub.cons rfl (Sub.cons rfl (Sub.cons rfl (Sub.cons rfl (Sub.cons rfl (Sub.cons rfl (Sub.nil _)))))))) (fun _ hw => hw) ?_
        · exact ⟨Nat.zero_le _, by simp⟩
        rintro ⟨many, k⟩ hI K hK21
        have hmb := Lfu.count_bd hI.2
        show SC _ _ Try.prog 100 w0 _ _ [(1, .slice al l.length cl), (5, .pointer (some ⟨B6, 0, none⟩)), (6, .int .i64 ((Lfu.run (⟨room, []⟩ : DUses) l).2)), (8, .slice aunlike unlike.length cunlike), (10, .int .i64 (i2 : Int)), (11, .int .i64 many), (12, .int .i64 (k : Int))] [own tInt Sunlike aunlike cunlike unlike, box B6 [.int .i64 (((Lfu.run (⟨room, []⟩ : DUses) l).1).room), .slice a3 (((Lfu.run (⟨room, []⟩ : DUses) l).1).list).length c4] 24, own tUse S1 a3 c4 (((Lfu.run (⟨room, []⟩ : DUses) l).1).list), base w0]
        refine c_seq ?_
        refine c_seq ?_
        refine c_region ?_
        refine o_pure (p_move (v := .int .i64 (k : Int)) rfl) rfl rfl rfl ?_
        refine o_pure (p_move (v := .slice al l.length cl) rfl) rfl rfl rfl ?_
        refine o_pure (p_len_slice (len := l.length) rfl rfl Try.underlying25) rfl rfl rfl ?_
        refine o_pure (p_lt (p := (k : Int)) (q := (l.length : Int)) rfl rfl) rfl rfl rfl ?_
        refine o_nil ?_
        refine q_then ?_
        refine c_cond (b := decide ((k : Int) < (l.length : Int))) rfl (fun hc22 => ?_) (fun hc22 => ?_)
        · simp only [decide_eq_true_eq] at hc22
          refine c_skip ?_
          refine q_then ?_
          refine c_seq ?_
          refine c_block ?_
          refine c_seq ?_
          refine c_draw hmix (by kernel_rfl) ?_
          refine w_pure (p_move (v := .slice al l.length cl) rfl) rfl rfl rfl ?_
          refine w_pure (p_move (v := .int .i64 (k : Int)) rfl) rfl rfl rfl ?_
          refine w_pure (p_indexAddr (L := l) (T := tInt) (i := (k : Int)) rfl rfl (rd_base (i := 3) rfl hl) Try.underlying25 sz3 (by omega) (by omega)) rfl rfl rfl ?_
          refine w_pure (p_loadE1 (i := k) (T := tInt) (L := l) (v := .int .i64 (l[k])) rfl (rd_base (i := 3) rfl hl) (by first | assumption | omega) sh3 rfl) rfl rfl rfl ?_
          refine w_pure (p_fieldAddr (B := B6) (j := 0) (j' := 1) rfl fo24_1 rfl) rfl rfl rfl ?_
          refine w_pure (p_load (i := 1) (v := .slice a3 (((Lfu.run (⟨room, []⟩ : DUses) l).1).list).length c4) rfl rfl sh22 rfl) rfl rfl rfl ?_
          refine w_pure (p_move (v := .int .i64 (i2 : Int)) rfl) rfl rfl rfl ?_
          refine w_pure (p_indexAddr (L := ((Lfu.run (⟨room, []⟩ : DUses) l).1).list) (T := tUse) (i := (i2 : Int)) rfl rfl (rd_own (i := 2) rfl) Try.underlying22 sz42 (by omega) (by omega)) rfl rfl rfl ?_
          refine w_pure (p_fieldAddrE rfl fo42_0) rfl rfl rfl ?_
          refine w_pure (p_loadF (i := i2) (j := 0) (T := tUse) (L := ((Lfu.run (⟨room, []⟩ : DUses) l).1).list) (v := .int .i64 (((((Lfu.run (⟨room, []⟩ : DUses) l).1).list)[i2]).key)) rfl (rd_own (i := 2) rfl) (by first | assumption | omega) sh3 rfl) rfl rfl rfl ?_
          refine w_pure (p_eq (p := l[k]) (q := ((((Lfu.run (⟨room, []⟩ : DUses) l).1).list)[i2]).key) rfl rfl) rfl rfl rfl ?_
          refine w_nil ?_
          refine q_then ?_
          refine c_cond (b := (l[k] == ((((Lfu.run (⟨room, []⟩ : DUses) l).1).list)[i2]).key)) rfl (fun hc23 => ?_) (fun hc23 => ?_)
          · simp only [beq_iff_eq] at hc23
            refine c_region ?_
            refine o_pure (p_move (v := .int .i64 many) rfl) rfl rfl rfl ?_
            refine o_pure (p_addb (p := many) (q := 1) rfl rfl (by omega)) rfl rfl rfl ?_
            refine o_pure (p_assign (v := .int .i64 (many + 1)) rfl) rfl rfl rfl ?_
            refine o_nil ?_
            refine q_block_normal (q_then ?_)
            refine c_region ?_
            refine o_pure (p_move (v := .int .i64 (k : Int)) rfl) rfl rfl rfl ?_
            refine o_pure (p_addb (p := (k : Int)) (q := 1) rfl rfl (by omega)) rfl rfl rfl ?_
            refine o_pure (p_assign (v := .int .i64 ((k : Int) + 1)) rfl) rfl rfl rfl ?_
            refine o_nil ?_
            refine q_round hK21 ((many + 1), k + 1) ?_ ?_ ?_ ?_
            · clear hK21
              first | exact ⟨by omega, by rw [Lfu.count_next (by omega), if_pos (by assumption), hI.2]⟩ | exact ⟨by omega, by rw [Lfu.count_next (by omega), if_neg (by assumption), hI.2]; omega⟩
            · (try dsimp only); omega
            · exact Sub.cons rfl (Sub.cons rfl (Sub.cons rfl (Sub.cons rfl (Sub.cons rfl (Sub.cons rfl (Sub.cons rfl (Sub.nil _)))))))
            · exact fun _ hw => HeapIs.pick hw [0, 1, 2, 3] (by decide) rfl
          · simp only [beq_eq_false_iff_ne, ne_eq] at hc23
            refine c_skip ?_
            refine q_block_normal (q_then ?_)
            refine c_region ?_
            refine o_pure (p_move (v := .int .i64 (k : Int)) rfl) rfl rfl rfl ?_
            refine o_pure (p_addb (p := (k : Int)) (q := 1) rfl rfl (by omega)) rfl rfl rfl ?_
            refine o_pure (p_assign (v := .int .i64 ((k : Int) + 1)) rfl) rfl rfl rfl ?_
            refine o_nil ?_
            refine q_round hK21 (many, k + 1) ?_ ?_ ?_ ?_
            · clear hK21
              first | exact ⟨by omega, by rw [Lfu.count_next (by omega), if_pos (by assumption), hI.2]⟩ | exact ⟨by omega, by rw [Lfu.count_next (by omega), if_neg (by assumption), hI.2]; omega⟩
            · (try dsimp only); omega
            · exact Sub.cons rfl (Sub.cons rfl (Sub.cons rfl (Sub.cons rfl (Sub.cons rfl (Sub.cons rfl (Sub.cons rfl (Sub.nil _)))))))
            · exact fun _ hw => HeapIs.pick hw [0, 1, 2, 3] (by decide) rfl
        · simp only [decide_eq_false_iff_not, Int.not_lt] at hc22
          refine c_exit ?_
          refine q_then_exit (q_then_exit (q_block_exit (q_then ?_)))
          refine c_seq ?_
          refine c_region ?_
          refine o_pure (p_move (v := .int .i64 many) rfl) rfl rfl rfl ?_
          refine o_pure (p_fieldAddr (B := B6) (j := 0) (j' := 1) rfl fo24_1 rfl) rfl rfl rfl ?_
          refine o_pure (p_load (i := 1) (v := .slice a3 (((Lfu.run (⟨room, []⟩ : DUses) l).1).list).length c4) rfl rfl sh22 rfl) rfl rfl rfl ?_
          refine o_pure (p_move (v := .int .i64 (i2 : Int)) rfl) rfl rfl rfl ?_
          refine o_pure (p_indexAddr (L := ((Lfu.run (⟨room, []⟩ : DUses) l).1).list) (T := tUse) (i := (i2 : Int)) rfl rfl (rd_own (i := 2) rfl) Try.underlying22 sz42 (by omega) (by omega)) rfl rfl rfl ?_
          refine o_pure (p_fieldAddrE rfl fo42_1) rfl rfl rfl ?_
          refine o_pure (p_loadF (i := i2) (j := 1) (T := tUse) (L := ((Lfu.run (⟨room, []⟩ : DUses) l).1).list) (v := .int .i64 (((((Lfu.run (⟨room, []⟩ : DUses) l).1).list)[i2]).count)) rfl (rd_own (i := 2) rfl) (by first | assumption | omega) sh3 rfl) rfl rfl rfl ?_
          refine o_pure (p_ne (p := many) (q := ((((Lfu.run (⟨room, []⟩ : DUses) l).1).list)[i2]).count) rfl rfl) rfl rfl rfl ?_
          refine o_nil ?_
          refine q_then ?_
          refine c_cond (b := (many != ((((Lfu.run (⟨room, []⟩ : DUses) l).1).list)[i2]).count)) rfl (fun hc24 => ?_) (fun hc24 => ?_)
          · simp only [bne_iff_ne, ne_eq] at hc24
            exfalso; exact hc24 (Lfu.c_count hrun hur (by omega) hI.2 (by omega))
          · simp only [bne_eq_false_iff_eq] at hc24
            refine c_skip ?_
            refine q_block_normal (q_then ?_)
            refine c_region ?_
            refine o_pure (p_move (v := .int .i64 (i2 : Int)) rfl) rfl rfl rfl ?_
            refine o_pure (p_addb (p := (i2 : Int)) (q := 1) rfl rfl (by omega)) rfl rfl rfl ?_
            refine o_pure (p_assign (v := .int .i64 ((i2 : Int) + 1)) rfl) rfl rfl rfl ?_
            refine o_nil ?_
            refine q_round hK19 (i2 + 1) ?_ ?_ ?_ ?_
            · clear hK19
              omega
            · (try dsimp only); omega
            · exact Sub.cons rfl (Sub.cons rfl (Sub.cons rfl (Sub.cons rfl (Sub.cons rfl (Sub.nil _)))))
            · exact fun _ hw => HeapIs.pick hw [0, 1, 2, 3] (by decide) rfl
      · simp only [decide_eq_false_iff_not, Int.not_lt] at hc20
        refine c_exit ?_
        refine q_then_exit (q_then_exit (q_block_exit (q_then ?_)))
        refine c_seq ?_
        refine c_region ?_
        refine o_pure (p_fieldAddr (B := B6) (j := 0) (j' := 1) rfl fo24_1 rfl) rfl rfl rfl ?_
        refine o_pure (p_load (i := 1) (v := .slice a3 (((Lfu.run (⟨room, []⟩ : DUses) l).1).list).length c4) rfl rfl sh22 rfl) rfl rfl rfl ?_
        refine o_pure (p_len_slice (len := (((Lfu.run (⟨room, []⟩ : DUses) l).1).list).length) rfl rfl Try.underlying22) rfl rfl rfl ?_
        refine o_pure (p_move (v := .slice aunlike unlike.length cunlike) rfl) rfl rfl rfl ?_
        refine o_pure (p_len_slice (len := unlike.length) rfl rfl Try.underlying25) rfl rfl rfl ?_
        refine o_pure (p_eq (p := ((((Lfu.run (⟨room, []⟩ : DUses) l).1).list).length : Int)) (q := (unlike.length : Int)) rfl rfl) rfl rfl rfl ?_
        refine o_pure (p_move (v := .bool (((((Lfu.run (⟨room, []⟩ : DUses) l).1).list).length : Int) == (unlike.length : Int))) rfl) rfl rfl rfl ?_
        refine o_and (p := 99) 8 (((Lfu.run (⟨room, []⟩ : DUses) l).2) == ((l.length : Int) - (unlike.length : Int))) ?_ ?_ ?_
        · intro hb25 hk
          simp only [beq_iff_eq] at hb25
          refine o_unguard 91 rfl rfl ?_
          refine o_pure (p_move (v := .int .i64 ((Lfu.run (⟨room, []⟩ : DUses) l).2)) rfl) rfl rfl rfl ?_
          refine o_unguard 91 rfl rfl ?_
          refine o_pure (p_move (v := .slice al l.length cl) rfl) rfl rfl rfl ?_
          refine o_unguard 91 rfl rfl ?_
          refine o_pure (p_len_slice (len := l.length) rfl rfl Try.underlying25) rfl rfl rfl ?_
          refine o_unguard 91 rfl rfl ?_
          refine o_pure (p_move (v := .slice aunlike unlike.length cunlike) rfl) rfl rfl rfl ?_
          refine o_unguard 91 rfl rfl ?_
          refine o_pure (p_len_slice (len := unlike.length) rfl rfl Try.underlying25) rfl rfl rfl ?_
          refine o_unguard 91 rfl rfl ?_
          refine o_pure (p_subb (p := (l.length : Int)) (q := (unlike.length : Int)) rfl rfl (by omega)) rfl rfl rfl ?_
          refine o_unguard 91 rfl rfl ?_
          refine o_pure (p_eq (p := ((Lfu.run (⟨room, []⟩ : DUses) l).2)) (q := ((l.length : Int) - (unlike.length : Int))) rfl rfl) rfl rfl rfl ?_
          refine o_pure (p_pick_true (u := .bool (((Lfu.run (⟨room, []⟩ : DUses) l).2) == ((l.length : Int) - (unlike.length : Int)))) rfl rfl) rfl rfl rfl ?_
          exact o_sub (Sub.cons rfl (Sub.skip rfl (Sub.skip rfl (Sub.skip rfl (Sub.skip rfl (Sub.skip rfl (Sub.skip rfl (Sub.skip rfl (Sub.skip rfl (Sub.skip rfl (Sub.refl _))))))))))) hk
        · intro hb25 hk
          refine o_guard_no rfl 91 rfl rfl rfl rfl rfl ?_
          refine o_guard_no rfl 91 rfl rfl rfl rfl rfl ?_
          refine o_guard_no rfl 91 rfl rfl rfl rfl rfl ?_
          refine o_guard_no rfl 91 rfl rfl rfl rfl rfl ?_
          refine o_guard_no rfl 91 rfl rfl rfl rfl rfl ?_
          refine o_guard_no rfl 91 rfl rfl rfl rfl rfl ?_
          refine o_guard_no rfl 91 rfl rfl rfl rfl rfl ?_
          refine o_pure (p_pick_false (v := .bool false) rfl rfl) rfl rfl rfl ?_
          exact o_sub (Sub.cons rfl (Sub.skip rfl (Sub.skip rfl (Sub.skip rfl (Sub.skip rfl (Sub.skip rfl (Sub.skip rfl (Sub.skip rfl (Sub.skip rfl (Sub.skip rfl (Sub.refl _))))))))))) hk
        refine o_pure (p_assign (v := .bool ((((((Lfu.run (⟨room, []⟩ : DUses) l).1).list).length : Int) == (unlike.length : Int)) && (((Lfu.run (⟨room, []⟩ : DUses) l).2) == ((l.length : Int) - (unlike.length : Int))))) rfl) rfl rfl rfl ?_
        refine o_nil ?_
        refine q_then ?_
        refine c_ret ?_
        have hr0 : (((((((Lfu.run (⟨room, []⟩ : DUses) l).1).list).length : Int) == (unlike.length : Int)) && (((Lfu.run (⟨room, []⟩ : DUses) l).2) == ((l.length : Int) - (unlike.length : Int)))) : Bool) = true := by
          first | rfl | (rw [hul]; simp [hct2, hct3]; done) | (rw [hul]; simp [hct2, hct3]; omega)
        refine q_end0 (v := .bool ((((((Lfu.run (⟨room, []⟩ : DUses) l).1).list).length : Int) == (unlike.length : Int)) && (((Lfu.run (⟨room, []⟩ : DUses) l).2) == ((l.length : Int) - (unlike.length : Int))))) (rt1 rfl (r_tmp rfl)) (i := 3) rfl ?_
        exact (by have hcc := congrArg (fun (y0 : Bool) => (.bool y0 : Value)) hr0; exact hcc)
end Go.Proofs.Ytagbihjkdejdjaa
