/- The walks, printed by a program from the translation and a specification. -/
import Derived.Test.YtkndekkacimekaaSgF
import Derived.Test.YtkndekkacimekaaSgLaw
import Derived.Test.YtkndekkacimekaaSgW3
namespace Go.Proofs.Ytkndekkacimekaa
open Go.Sx Go.RowKit
set_option maxHeartbeats 8000000 in
set_option maxRecDepth 100000 in
theorem rscheck_ok (h : DHalls) (ah_0 : Option Addr) (ch_0 : Nat) (ah_1 : Option Addr) (ch_1 : Nat) : Fn0 Try.prog 36 [.agg #[.int .i64 h.first, .int .i64 h.second, .slice ah_0 h.young.length ch_0, .slice ah_1 h.old.length ch_1]] (fun w => Rd tInt w ah_0 ch_0 h.young ∧ Rd tInt w ah_1 ch_1 h.old) (.int .i64 (Seg.check h)) := by
  refine fn0 (nt := 35) (F0 := [(0, .agg #[.int .i64 h.first, .int .i64 h.second, .slice ah_0 h.young.length ch_0, .slice ah_1 h.old.length ch_1])]) Try.func36 rfl Try.ntmps36 rfl rfl (fun w0 hpre => ?_)
  obtain ⟨hh_0, hh_1⟩ := hpre
  have hlhh_0 := hh_0.2.1
  have hlhh_1 := hh_1.2.1
  refine c_seq ?_
  refine c_region ?_
  refine o_box (v := .agg #[.int .i64 h.first, .int .i64 h.second, .slice ah_0 h.young.length ch_0, .slice ah_1 h.old.length ch_1]) rfl rfl (fun B1 => ?_)
  refine o_pure (p_assign (v := .int .i64 0) rfl) rfl rfl rfl ?_
  refine o_nil ?_
  refine q_then ?_
  refine c_seq ?_
  refine c_seq ?_
  refine c_region ?_
  refine o_pure (p_fieldAddr (B := B1) (j := 0) (j' := 0) rfl fo58_0 rfl) rfl rfl rfl ?_
  refine o_pure (p_load (i := 0) (v := .int .i64 h.first) rfl rfl sh3 rfl) rfl rfl rfl ?_
  refine o_call0 (v := .bool (Ref.between h.first (1 : Int) (40 : Int))) rfl (between_ok h.first (1 : Int) (40 : Int)) hf56 (fun _ _ => trivial) rfl ?_
  refine o_pure (p_not (b := (Ref.between h.first (1 : Int) (40 : Int))) rfl) rfl rfl rfl ?_
  refine o_pure (p_move (v := .bool (!(Ref.between h.first (1 : Int) (40 : Int)))) rfl) rfl rfl rfl ?_
  refine o_or (p := 12) 5 (!(Ref.between h.second (1 : Int) (40 : Int))) ?_ ?_ ?_
  · intro hb2 hk
    simp only [Bool.not_eq_false'] at hb2
    refine o_unguard 7 rfl rfl ?_
    refine o_pure (p_fieldAddr (B := B1) (j := 0) (j' := 1) rfl fo58_1 rfl) rfl rfl rfl ?_
    refine o_unguard 7 rfl rfl ?_
    refine o_pure (p_load (i := 0) (v := .int .i64 h.second) rfl rfl sh3 rfl) rfl rfl rfl ?_
    refine o_unguard 7 rfl rfl ?_
    refine o_call0 (v := .bool (Ref.between h.second (1 : Int) (40 : Int))) rfl (between_ok h.second (1 : Int) (40 : Int)) hf56 (fun _ _ => trivial) rfl ?_
    refine o_unguard 7 rfl rfl ?_
    refine o_pure (p_not (b := (Ref.between h.second (1 : Int) (40 : Int))) rfl) rfl rfl rfl ?_
    refine o_pure (p_pick_false (v := .bool (!(Ref.between h.second (1 : Int) (40 : Int)))) rfl rfl) rfl rfl rfl ?_
    exact o_sub (Sub.cons rfl (Sub.skip rfl (Sub.skip rfl (Sub.skip rfl (Sub.skip rfl (Sub.skip rfl (Sub.skip rfl (Sub.refl _)))))))) hk
  · intro hb2 hk
    refine o_guard_no rfl 7 rfl rfl rfl rfl rfl ?_
    refine o_guard_no rfl 7 rfl rfl rfl rfl rfl ?_
    refine o_guard_no rfl 7 rfl rfl rfl rfl rfl ?_
    refine o_guard_no rfl 7 rfl rfl rfl rfl rfl ?_
    refine o_pure (p_pick_true (u := .bool true) rfl rfl) rfl rfl rfl ?_
    exact o_sub (Sub.cons rfl (Sub.skip rfl (Sub.skip rfl (Sub.skip rfl (Sub.skip rfl (Sub.skip rfl (Sub.skip rfl (Sub.refl _)))))))) hk
  refine o_nil ?_
  refine q_then ?_
  refine c_cond (b := ((!(Ref.between h.first (1 : Int) (40 : Int))) || (!(Ref.between h.second (1 : Int) (40 : Int))))) rfl (fun hc3 => ?_) (fun hc3 => ?_)
  · simp only [Bool.or_eq_true, Bool.not_eq_true'] at hc3
    have hrx : Lru.okRoom h.first = false ∨ Lru.okRoom h.second = false := hc3
    refine c_seq ?_
    refine c_region ?_
    refine o_pure (p_assign (v := .int .i64 3) rfl) rfl rfl rfl ?_
    refine o_nil ?_
    refine q_then ?_
    refine c_ret ?_
    refine q_then_ret ?_
    have hr0 : (3 : Int) = (Seg.check h) := by
      first | exact Seg.chk1 hrx | exact Seg.chk2 hrm (by omega) | exact Seg.chk3 hrm (by omega)
    refine q_end0 (v := .int .i64 3) (rt1 rfl (r_tmp rfl)) (i := 1) rfl ?_
    exact (by have hcc := congrArg (fun (y0 : Int) => (.int .i64 y0 : Value)) hr0; exact hcc)
  · simp only [Bool.or_eq_false_iff, Bool.not_eq_false'] at hc3
    have hrm : Lru.okRoom h.first = true ∧ Lru.okRoom h.second = true := hc3
    have hrn := Lru.room_ok hrm.1
    have hrf := Lru.room_ok hrm.2
    refine c_skip ?_
    refine q_then ?_
    refine c_seq ?_
    refine c_seq ?_
    refine c_region ?_
    refine o_pure (p_fieldAddr (B := B1) (j := 0) (j' := 2) rfl fo58_2 rfl) rfl rfl rfl ?_
    refine o_pure (p_load (i := 0) (v := .slice ah_0 h.young.length ch_0) rfl rfl sh30 rfl) rfl rfl rfl ?_
    refine o_pure (p_len_slice (len := h.young.length) rfl rfl Try.underlying30) rfl rfl rfl ?_
    refine o_pure (p_fieldAddr (B := B1) (j := 0) (j' := 0) rfl fo58_0 rfl) rfl rfl rfl ?_
    refine o_pure (p_load (i := 0) (v := .int .i64 h.first) rfl rfl sh3 rfl) rfl rfl rfl ?_
    refine o_pure (p_gt (p := (h.young.length : Int)) (q := h.first) rfl rfl) rfl rfl rfl ?_
    refine o_pure (p_move (v := .bool (decide (h.first < (h.young.length : Int)))) rfl) rfl rfl rfl ?_
    refine o_or (p := 26) 7 (decide (h.second < (h.old.length : Int))) ?_ ?_ ?_
    · intro hb4 hk
      simp only [decide_eq_false_iff_not, Int.not_lt] at hb4
      refine o_unguard 19 rfl rfl ?_
      refine o_pure (p_fieldAddr (B := B1) (j := 0) (j' := 3) rfl fo58_3 rfl) rfl rfl rfl ?_
      refine o_unguard 19 rfl rfl ?_
      refine o_pure (p_load (i := 0) (v := .slice ah_1 h.old.length ch_1) rfl rfl sh30 rfl) rfl rfl rfl ?_
      refine o_unguard 19 rfl rfl ?_
      refine o_pure (p_len_slice (len := h.old.length) rfl rfl Try.underlying30) rfl rfl rfl ?_
      refine o_unguard 19 rfl rfl ?_
      refine o_pure (p_fieldAddr (B := B1) (j := 0) (j' := 1) rfl fo58_1 rfl) rfl rfl rfl ?_
      refine o_unguard 19 rfl rfl ?_
      refine o_pure (p_load (i := 0) (v := .int .i64 h.second) rfl rfl sh3 rfl) rfl rfl rfl ?_
      refine o_unguard 19 rfl rfl ?_
      refine o_pure (p_gt (p := (h.old.length : Int)) (q := h.second) rfl rfl) rfl rfl rfl ?_
      refine o_pure (p_pick_false (v := .bool (decide (h.second < (h.old.length : Int)))) rfl rfl) rfl rfl rfl ?_
      exact o_sub (Sub.cons rfl (Sub.skip rfl (Sub.skip rfl (Sub.skip rfl (Sub.skip rfl (Sub.skip rfl (Sub.skip rfl (Sub.skip rfl (Sub.skip rfl (Sub.refl _)))))))))) hk
    · intro hb4 hk
      refine o_guard_no rfl 19 rfl rfl rfl rfl rfl ?_
      refine o_guard_no rfl 19 rfl rfl rfl rfl rfl ?_
      refine o_guard_no rfl 19 rfl rfl rfl rfl rfl ?_
      refine o_guard_no rfl 19 rfl rfl rfl rfl rfl ?_
      refine o_guard_no rfl 19 rfl rfl rfl rfl rfl ?_
      refine o_guard_no rfl 19 rfl rfl rfl rfl rfl ?_
      refine o_pure (p_pick_true (u := .bool true) rfl rfl) rfl rfl rfl ?_
      exact o_sub (Sub.cons rfl (Sub.skip rfl (Sub.skip rfl (Sub.skip rfl (Sub.skip rfl (Sub.skip rfl (Sub.skip rfl (Sub.skip rfl (Sub.skip rfl (Sub.refl _)))))))))) hk
    refine o_nil ?_
    refine q_then ?_
    refine c_cond (b := (decide (h.first < (h.young.length : Int)) || decide (h.second < (h.old.length : Int)))) rfl (fun hc5 => ?_) (fun hc5 => ?_)
    · simp only [Bool.or_eq_true, decide_eq_true_eq] at hc5
      refine c_seq ?_
      refine c_region ?_
      refine o_pure (p_assign (v := .int .i64 2) rfl) rfl rfl rfl ?_
      refine o_nil ?_
      refine q_then ?_
      refine c_ret ?_
      refine q_then_ret ?_
      have hr0 : (2 : Int) = (Seg.check h) := by
        first | exact Seg.chk1 hrx | exact Seg.chk2 hrm (by omega) | exact Seg.chk3 hrm (by omega)
      refine q_end0 (v := .int .i64 2) (rt1 rfl (r_tmp rfl)) (i := 1) rfl ?_
      exact (by have hcc := congrArg (fun (y0 : Int) => (.int .i64 y0 : Value)) hr0; exact hcc)
    · simp only [Bool.or_eq_false_iff, decide_eq_false_iff_not, Int.not_lt] at hc5
      refine c_skip ?_
      refine q_then ?_
      refine c_seq ?_
      refine c_held hmix [box B1 [.int .i64 h.first, .int .i64 h.second, .slice ah_0 h.young.length ch_0, .slice ah_1 h.old.length ch_1] 58, base w0] rfl rfl ?_
      refine h_take (i := 1) (ls := #[false, true, false, false, false, false, false, false, false]) rfl (by kernel_rfl) (by kernel_rfl) (by kernel_rfl) (fun _ _ _ h => h) (p_fieldAddr (B := B1) (j := 0) (j' := 2) rfl fo58_2 rfl) rfl rfl rfl (fun _ hw => HeapIs.drop hw (List.Sublist.refl _)) rfl ?_
      refine h_take (i := 2) (ls := #[false, true, true, false, false, false, false, false, false]) rfl (by kernel_rfl) (by kernel_rfl) (by kernel_rfl) (fun _ _ _ h => h) (p_load (i := 0) (v := .slice ah_0 h.young.length ch_0) rfl rfl sh30 rfl) rfl rfl rfl (fun _ hw => HeapIs.drop hw (List.Sublist.refl _)) rfl ?_
      refine h_take (i := 4) (ls := #[false, true, true, false, true, false, false, false, false]) rfl (by kernel_rfl) (by kernel_rfl) (by kernel_rfl) (fun _ _ _ h => h) (p_fieldAddr (B := B1) (j := 0) (j' := 3) rfl fo58_3 rfl) rfl rfl rfl (fun _ hw => HeapIs.drop hw (List.Sublist.refl _)) rfl ?_
      refine h_take (i := 5) (ls := #[false, true, true, false, true, true, false, false, false]) rfl (by kernel_rfl) (by kernel_rfl) (by kernel_rfl) (fun _ _ _ h => h) (p_load (i := 0) (v := .slice ah_1 h.old.length ch_1) rfl rfl sh30 rfl) rfl rfl rfl (fun _ hw => HeapIs.drop hw (List.Sublist.refl _)) rfl ?_
      refine h_one (i := 0) (ls := #[true, true, true, false, true, true, false, false, false]) (by kernel_rfl) rfl rfl ?_
      refine o_buildSlice (m := 0) (T := tInt) (L := []) (vs := []) rfl rfl rfl rfl Try.underlying30 sz3 (by decide) ze3 rfl (by decide) rfl (fun S6_0 a6_0 => ?_)
      refine o_nil ?_
      refine h_next (fun _ hw => HeapIs.drop hw (List.Sublist.cons _ (List.Sublist.cons_cons _ (List.Sublist.cons_cons _ (List.Sublist.slnil))))) ?_
      refine h_one (i := 3) (ls := #[true, true, true, true, true, true, false, false, false]) (by kernel_rfl) rfl rfl ?_
      refine o_append (i := 0) (L := []) (M := h.young) (T := tInt) rfl rfl rfl (rd_base (i := 2) rfl hh_0) Try.underlying30 Try.underlying30 (by intro k h; cases h) el3 (by intro z; simp [tInt, one1]) (by decide) (by first | omega | (simp only [List.length_cons, List.length_nil]; omega) | (simp only [List.length_append, List.length_cons, List.length_nil, List.length_take, List.length_drop]; omega)) rfl (fun a6_3 c6_3 S6_3 => ?_)
      refine o_nil ?_
      refine h_next (fun _ hw => HeapIs.drop hw (List.Sublist.cons _ (List.Sublist.cons_cons _ (List.Sublist.cons_cons _ (List.Sublist.slnil))))) ?_
      refine h_one (i := 6) (ls := #[true, true, true, true, true, true, true, false, false]) (by kernel_rfl) rfl rfl ?_
      refine o_append (i := 0) (L := h.young) (M := h.old) (T := tInt) rfl rfl rfl (rd_base (i := 2) rfl hh_1) Try.underlying30 Try.underlying30 (by intro k h; cases h) el3 (by intro z; simp [tInt, one1]) (by decide) (by first | omega | (simp only [List.length_cons, List.length_nil]; omega) | (simp only [List.length_append, List.length_cons, List.length_nil, List.length_take, List.length_drop]; omega)) rfl (fun a6_6 c6_6 S6_6 => ?_)
      refine o_nil ?_
      refine h_next (fun _ hw => HeapIs.drop hw (List.Sublist.cons _ (List.Sublist.cons_cons _ (List.Sublist.cons_cons _ (List.Sublist.slnil))))) ?_
      refine h_one (i := 7) (ls := #[true, true, true, true, true, true, true, true, false]) (by kernel_rfl) rfl rfl ?_
      refine o_call0 (v := .int .i64 (Lru.keys (h.young ++ h.old))) rfl (keysOnce_ok (h.young ++ h.old) a6_6 c6_6) hf68 (fun w hw => (rd_own (i := 0) rfl) w hw) rfl ?_
      refine o_nil ?_
      refine h_next (fun _ hw => HeapIs.drop hw (List.Sublist.cons _ (List.Sublist.cons_cons _ (List.Sublist.cons_cons _ (List.Sublist.slnil))))) ?_
      refine h_take (i := 8) (ls := #[true, true, true, true, true, true, true, true, true]) rfl (by kernel_rfl) (by kernel_rfl) (by kernel_rfl) (fun _ _ _ h => h) (p_assign (v := .int .i64 (Lru.keys (h.young ++ h.old))) rfl) rfl rfl rfl (fun _ hw => HeapIs.drop hw (List.Sublist.cons _ (List.Sublist.cons_cons _ (List.Sublist.cons_cons _ (List.Sublist.slnil))))) rfl ?_
      refine h_done (by kernel_rfl) ?_
      refine q_then ?_
      refine c_ret ?_
      have hr0 : ((Lru.keys (h.young ++ h.old)) : Int) = (Seg.check h) := by
        first | exact Seg.chk1 hrx | exact Seg.chk2 hrm (by omega) | exact Seg.chk3 hrm (by omega)
      refine q_end0 (v := .int .i64 (Lru.keys (h.young ++ h.old))) (rt1 rfl (r_tmp rfl)) (i := 2) rfl ?_
      exact (by have hcc := congrArg (fun (y0 : Int) => (.int .i64 y0 : Value)) hr0; exact hcc)

set_option maxHeartbeats 8000000 in
set_option maxRecDepth 100000 in
theorem butKey_ok (l : List Int) (al : Option Addr) (cl : Nat) (key : Int) (first : Int) (room : Int) (hy1 : 1 ≤ room ∧ l.length ≤ 1000) : FnX Try.prog 69 [.slice al l.length cl, .int .i64 key, .int .i64 first, .int .i64 room] [] (fun w => SlR tInt (outer w []).S w al cl l) (Option Addr × Nat × (Nat → Prop) × Option Addr × Nat × (Nat → Prop)) (fun p => .tuple #[.slice p.1 ((Seg.but l key first).take room.toNat).length p.2.1, .slice p.2.2.2.1 ((Seg.but l key first).drop room.toNat).length p.2.2.2.2.1]) (fun p => [own tInt p.2.2.1 p.1 p.2.1 ((Seg.but l key first).take room.toNat), own tInt p.2.2.2.2.2 p.2.2.2.1 p.2.2.2.2.1 ((Seg.but l key first).drop room.toNat)]) := by
  refine fnX (nt := 51) (F0 := [(0, .slice al l.length cl), (1, .int .i64 key), (2, .int .i64 first), (3, .int .i64 room)]) Try.func69 rfl Try.ntmps69 rfl rfl (fun w0 hpre => ?_)
  have hl := hpre
  have hlhl := hl.2.1
  refine c_seq ?_
  refine c_region ?_
  refine o_pure (p_assign (v := .slice none 0 0) rfl) rfl rfl rfl ?_
  refine o_pure (p_assign (v := .slice none 0 0) rfl) rfl rfl rfl ?_
  refine o_nil ?_
  refine q_then ?_
  refine c_seq ?_
  refine c_region ?_
  refine o_pure (p_assign (v := .slice none 0 0) rfl) rfl rfl rfl ?_
  refine o_pure (p_assign (v := .slice none 0 0) rfl) rfl rfl rfl ?_
  refine o_nil ?_
  refine q_then ?_
  refine c_seq ?_
  refine c_seq ?_
  refine c_region ?_
  refine o_pure (p_move (v := .int .i64 first) rfl) rfl rfl rfl ?_
  refine o_pure (p_ge (p := first) (q := 0) rfl rfl) rfl rfl rfl ?_
  refine o_nil ?_
  refine q_then ?_
  refine c_cond (b := decide (0 ≤ first)) rfl (fun hc1 => ?_) (fun hc1 => ?_)
  · simp only [decide_eq_true_eq] at hc1
    refine c_region ?_
    refine o_pure (p_move (v := .slice none 0 0) rfl) rfl rfl rfl ?_
    refine o_pure (p_move (v := .int .i64 first) rfl) rfl rfl rfl ?_
    refine o_buildSlice (m := 1) (T := tInt) (L := [first]) (vs := [.int .i64 first]) rfl rfl rfl rfl Try.underlying30 sz3 (by decide) ze3 rfl (by decide) rfl (fun S2 a3 => ?_)
    refine o_ownNil tInt ?_
    refine o_append (i := 0) (L := []) (M := [first]) (T := tInt) rfl rfl rfl (rd_own (i := 1) rfl) Try.underlying30 Try.underlying30 (by intro k h; cases h) el3 (by intro z; simp [tInt, one1]) (by decide) (by first | omega | (simp only [List.length_cons, List.length_nil]; omega) | (simp only [List.length_append, List.length_cons, List.length_nil, List.length_take, List.length_drop]; omega)) rfl (fun a6 c7 S8 => ?_)
    refine o_pure (p_assign (v := .slice a6 ([first]).length c7) rfl) rfl rfl rfl ?_
    refine o_nil ?_
    refine q_then ?_
    refine c_seq ?_
    refine c_seq ?_
    refine c_region ?_
    refine o_pure (p_assign (v := .int .i64 0) rfl) rfl rfl rfl ?_
    refine o_nil ?_
    refine q_then ?_
    refine c_block ?_
    refine c_ownNil tInt ?_
    refine c_loop (St := List Int × Option Addr × Nat × (Nat → Prop) × List Int × Option Addr × Nat × (Nat → Prop) × Nat)
      (fun ⟨oo, aoo, coo, Soo, gg, agg, cgg, Sgg, i⟩ => [(0, .slice al l.length cl), (1, .int .i64 key), (3, .int .i64 room), (10, .slice aoo oo.length coo), (11, .slice agg gg.length cgg), (12, .int .i64 (i : Int))])
      (fun ⟨oo, aoo, coo, Soo, gg, agg, cgg, Sgg, i⟩ => [own tInt Sgg agg cgg gg, own tInt Soo aoo coo oo, own tInt S2 a3 ([first].length) ([first]), outer w0 []])
      (fun ⟨oo, aoo, coo, Soo, gg, agg, cgg, Sgg, i⟩ => Seg.BI l key first room oo gg i)
      (fun ⟨oo, aoo, coo, Soo, gg, agg, cgg, Sgg, i⟩ => l.length - i)
      ([first], a6, c7, S8, [], none, 0, (fun _ => False), 0) ?_ (Sub.cons rfl (Sub.cons rfl (Sub.cons rfl (Sub.cons rfl (Sub.cons rfl (Sub.cons rfl (Sub.nil _))))))) (fun _ hw => hw) ?_
    · first | exact Seg.BI.start1 hy1.1 (by omega) | exact Seg.BI.start2 hy1.1 (by omega)
    rintro ⟨oo, aoo, coo, Soo, gg, agg, cgg, Sgg, i⟩ hI K hK10
    have hbl := hI.len
    have hbi := hI.le
    show SC _ _ Try.prog 51 w0 _ _ [(0, .slice al l.length cl), (1, .int .i64 key), (3, .int .i64 room), (10, .slice aoo oo.length coo), (11, .slice agg gg.length cgg), (12, .int .i64 (i : Int))] [own tInt Sgg agg cgg gg, own tInt Soo aoo coo oo, own tInt S2 a3 ([first].length) ([first]), outer w0 []]
    refine c_seq ?_
    refine c_seq ?_
    refine c_region ?_
    refine o_pure (p_move (v := .int .i64 (i : Int)) rfl) rfl rfl rfl ?_
    refine o_pure (p_move (v := .slice al l.length cl) rfl) rfl rfl rfl ?_
    refine o_pure (p_len_slice (len := l.length) rfl rfl Try.underlying30) rfl rfl rfl ?_
    refine o_pure (p_lt (p := (i : Int)) (q := (l.length : Int)) rfl rfl) rfl rfl rfl ?_
    refine o_nil ?_
    refine q_then ?_
    refine c_cond (b := decide ((i : Int) < (l.length : Int))) rfl (fun hc11 => ?_) (fun hc11 => ?_)
    · simp only [decide_eq_true_eq] at hc11
      refine c_skip ?_
      refine q_then ?_
      refine c_seq ?_
      refine c_block ?_
      refine c_seq ?_
      refine c_seq ?_
      refine c_region ?_
      refine o_pure (p_move (v := .slice al l.length cl) rfl) rfl rfl rfl ?_
      refine o_pure (p_move (v := .int .i64 (i : Int)) rfl) rfl rfl rfl ?_
      refine o_pure (p_indexAddr (L := l) (T := tInt) (i := (i : Int)) rfl rfl (rd_outer (i := 3) rfl hl) Try.underlying30 sz3 (by omega) (by omega)) rfl rfl rfl ?_
      refine o_pure (p_loadE1 (i := i) (T := tInt) (L := l) (v := .int .i64 (l[i])) rfl (rd_outer (i := 3) rfl hl) (by first | assumption | omega) sh3 rfl) rfl rfl rfl ?_
      refine o_pure (p_move (v := .int .i64 key) rfl) rfl rfl rfl ?_
      refine o_pure (p_eq (p := l[i]) (q := key) rfl rfl) rfl rfl rfl ?_
      refine o_nil ?_
      refine q_then ?_
      refine c_cond (b := (l[i] == key)) rfl (fun hc12 => ?_) (fun hc12 => ?_)
      · simp only [beq_iff_eq] at hc12
        refine c_exit ?_
        refine q_then_exit (q_block_exit (q_then ?_))
        refine c_region ?_
        refine o_pure (p_move (v := .int .i64 (i : Int)) rfl) rfl rfl rfl ?_
        refine o_pure (p_addb (p := (i : Int)) (q := 1) rfl rfl (by omega)) rfl rfl rfl ?_
        refine o_pure (p_assign (v := .int .i64 ((i : Int) + 1)) rfl) rfl rfl rfl ?_
        refine o_nil ?_
        refine q_round hK10 (oo, aoo, coo, Soo, gg, agg, cgg, Sgg, i + 1) ?_ ?_ ?_ ?_
        · clear hK10
          first | exact hI.skip (by omega) (by assumption) | exact hI.add (by omega) (by assumption) (by assumption) | exact hI.drop (by omega) (by assumption) hy1.1 (by assumption)
        · (try dsimp only); omega
        · exact Sub.cons rfl (Sub.cons rfl (Sub.cons rfl (Sub.cons rfl (Sub.cons rfl (Sub.cons rfl (Sub.nil _))))))
        · exact fun _ hw => HeapIs.pick hw [0, 1, 2, 3] (by decide) rfl
      · simp only [beq_eq_false_iff_ne, ne_eq] at hc12
        refine c_skip ?_
        refine q_then ?_
        refine c_seq ?_
        refine c_region ?_
        refine o_pure (p_move (v := .slice aoo oo.length coo) rfl) rfl rfl rfl ?_
        refine o_pure (p_len_slice (len := oo.length) rfl rfl Try.underlying30) rfl rfl rfl ?_
        refine o_pure (p_move (v := .int .i64 room) rfl) rfl rfl rfl ?_
        refine o_pure (p_lt (p := (oo.length : Int)) (q := room) rfl rfl) rfl rfl rfl ?_
        refine o_nil ?_
        refine q_then ?_
        refine c_cond (b := decide ((oo.length : Int) < room)) rfl (fun hc13 => ?_) (fun hc13 => ?_)
        · simp only [decide_eq_true_eq] at hc13
          refine c_region ?_
          refine o_pure (p_move (v := .slice aoo oo.length coo) rfl) rfl rfl rfl ?_
          refine o_pure (p_move (v := .slice al l.length cl) rfl) rfl rfl rfl ?_
          refine o_pure (p_move (v := .int .i64 (i : Int)) rfl) rfl rfl rfl ?_
          refine o_pure (p_indexAddr (L := l) (T := tInt) (i := (i : Int)) rfl rfl (rd_outer (i := 3) rfl hl) Try.underlying30 sz3 (by omega) (by omega)) rfl rfl rfl ?_
          refine o_pure (p_loadE1 (i := i) (T := tInt) (L := l) (v := .int .i64 (l[i])) rfl (rd_outer (i := 3) rfl hl) (by first | assumption | omega) sh3 rfl) rfl rfl rfl ?_
          refine o_buildSlice (m := 1) (T := tInt) (L := [l[i]]) (vs := [.int .i64 (l[i])]) rfl rfl rfl rfl Try.underlying30 sz3 (by decide) ze3 rfl (by decide) rfl (fun S14 a15 => ?_)
          refine o_append (i := 2) (L := oo) (M := [l[i]]) (T := tInt) rfl rfl rfl (rd_own (i := 0) rfl) Try.underlying30 Try.underlying30 (by intro k h; cases h) el3 (by intro z; simp [tInt, one1]) (by decide) (by first | omega | (simp only [List.length_cons, List.length_nil]; omega) | (simp only [List.length_append, List.length_cons, List.length_nil, List.length_take, List.length_drop]; omega)) rfl (fun a17 c18 S19 => ?_)
          refine o_pure (p_assign (v := .slice a17 (oo ++ [l[i]]).length c18) rfl) rfl rfl rfl ?_
          refine o_nil ?_
          refine q_block_normal (q_then ?_)
          refine c_region ?_
          refine o_pure (p_move (v := .int .i64 (i : Int)) rfl) rfl rfl rfl ?_
          refine o_pure (p_addb (p := (i : Int)) (q := 1) rfl rfl (by omega)) rfl rfl rfl ?_
          refine o_pure (p_assign (v := .int .i64 ((i : Int) + 1)) rfl) rfl rfl rfl ?_
          refine o_nil ?_
          refine q_round hK10 ((oo ++ [l[i]]), a17, c18, S19, gg, agg, cgg, Sgg, i + 1) ?_ ?_ ?_ ?_
          · clear hK10
            first | exact hI.skip (by omega) (by assumption) | exact hI.add (by omega) (by assumption) (by assumption) | exact hI.drop (by omega) (by assumption) hy1.1 (by assumption)
          · (try dsimp only); omega
          · exact Sub.cons rfl (Sub.cons rfl (Sub.cons rfl (Sub.cons rfl (Sub.cons rfl (Sub.cons rfl (Sub.nil _))))))
          · exact fun _ hw => HeapIs.pick hw [1, 2, 3, 4] (by decide) rfl
        · simp only [decide_eq_false_iff_not, Int.not_lt] at hc13
          refine c_region ?_
          refine o_pure (p_move (v := .slice agg gg.length cgg) rfl) rfl rfl rfl ?_
          refine o_pure (p_move (v := .slice al l.length cl) rfl) rfl rfl rfl ?_
          refine o_pure (p_move (v := .int .i64 (i : Int)) rfl) rfl rfl rfl ?_
          refine o_pure (p_indexAddr (L := l) (T := tInt) (i := (i : Int)) rfl rfl (rd_outer (i := 3) rfl hl) Try.underlying30 sz3 (by omega) (by omega)) rfl rfl rfl ?_
          refine o_pure (p_loadE1 (i := i) (T := tInt) (L := l) (v := .int .i64 (l[i])) rfl (rd_outer (i := 3) rfl hl) (by first | assumption | omega) sh3 rfl) rfl rfl rfl ?_
          refine o_buildSlice (m := 1) (T := tInt) (L := [l[i]]) (vs := [.int .i64 (l[i])]) rfl rfl rfl rfl Try.underlying30 sz3 (by decide) ze3 rfl (by decide) rfl (fun S20 a21 => ?_)
          refine o_append (i := 1) (L := gg) (M := [l[i]]) (T := tInt) rfl rfl rfl (rd_own (i := 0) rfl) Try.underlying30 Try.underlying30 (by intro k h; cases h) el3 (by intro z; simp [tInt, one1]) (by decide) (by first | omega | (simp only [List.length_cons, List.length_nil]; omega) | (simp only [List.length_append, List.length_cons, List.length_nil, List.length_take, List.length_drop]; omega)) rfl (fun a23 c24 S25 => ?_)
          refine o_pure (p_assign (v := .slice a23 (gg ++ [l[i]]).length c24) rfl) rfl rfl rfl ?_
          refine o_nil ?_
          refine q_block_normal (q_then ?_)
          refine c_region ?_
          refine o_pure (p_move (v := .int .i64 (i : Int)) rfl) rfl rfl rfl ?_
          refine o_pure (p_addb (p := (i : Int)) (q := 1) rfl rfl (by omega)) rfl rfl rfl ?_
          refine o_pure (p_assign (v := .int .i64 ((i : Int) + 1)) rfl) rfl rfl rfl ?_
          refine o_nil ?_
          refine q_round hK10 (oo, aoo, coo, Soo, (gg ++ [l[i]]), a23, c24, S25, i + 1) ?_ ?_ ?_ ?_
          · clear hK10
            first | exact hI.skip (by omega) (by assumption) | exact hI.add (by omega) (by assumption) (by assumption) | exact hI.drop (by omega) (by assumption) hy1.1 (by assumption)
          · (try dsimp only); omega
          · exact Sub.cons rfl (Sub.cons rfl (Sub.cons rfl (Sub.cons rfl (Sub.cons rfl (Sub.cons rfl (Sub.nil _))))))
          · exact fun _ hw => HeapIs.pick hw [1, 2, 3, 4] (by decide) rfl
    · simp only [decide_eq_false_iff_not, Int.not_lt] at hc11
      refine c_exit ?_
      refine q_then_exit (q_then_exit (q_block_exit (q_then ?_)))
      refine c_seq ?_
      refine c_region ?_
      refine o_pure (p_move (v := .slice aoo oo.length coo) rfl) rfl rfl rfl ?_
      refine o_pure (p_move (v := .slice agg gg.length cgg) rfl) rfl rfl rfl ?_
      refine o_pure (p_assign (v := .slice aoo oo.length coo) rfl) rfl rfl rfl ?_
      refine o_pure (p_assign (v := .slice agg gg.length cgg) rfl) rfl rfl rfl ?_
      refine o_nil ?_
      refine q_then ?_
      refine c_ret ?_
      have hr0 : (oo : List Int) = ((Seg.but l key first).take room.toNat) := by
        first | exact (hI.done (by omega)).1 | exact (hI.done (by omega)).2
      have hr1 : (gg : List Int) = ((Seg.but l key first).drop room.toNat) := by
        first | exact (hI.done (by omega)).1 | exact (hI.done (by omega)).2
      refine q_endX (p := (aoo, coo, Soo, agg, cgg, Sgg)) (rt2 rfl (r_tmp rfl) (r_tmp rfl)) ?_ (fun w hw => ?_)
      · exact (by have hcc := congr (congrArg (fun (y0 : List Int) (y1 : List Int) => (.tuple #[.slice aoo y0.length coo, .slice agg y1.length cgg] : Value)) hr0) hr1; exact hcc)
      · have h2 := hw.pick (H' := [outer w0 [], own tInt Soo aoo coo oo, own tInt Sgg agg cgg gg]) [3, 1, 0] (by decide) rfl
        exact Eq.mp (congrArg (fun z => HeapIs w0 ((outer w0 []) :: z) w) ((by have hcc := congr (congrArg (fun (y0 : List Int) (y1 : List Int) => ([own tInt Soo aoo coo y0, own tInt Sgg agg cgg y1] : List Ent)) hr0) hr1; exact hcc))) h2
  · simp only [decide_eq_false_iff_not, Int.not_le] at hc1
    refine c_skip ?_
    refine q_then ?_
    refine c_seq ?_
    refine c_seq ?_
    refine c_region ?_
    refine o_pure (p_assign (v := .int .i64 0) rfl) rfl rfl rfl ?_
    refine o_nil ?_
    refine q_then ?_
    refine c_block ?_
    refine c_ownNil tInt ?_
    refine c_ownNil tInt ?_
    refine c_loop (St := List Int × Option Addr × Nat × (Nat → Prop) × List Int × Option Addr × Nat × (Nat → Prop) × Nat)
      (fun ⟨oo, aoo, coo, Soo, gg, agg, cgg, Sgg, i⟩ => [(0, .slice al l.length cl), (1, .int .i64 key), (3, .int .i64 room), (10, .slice aoo oo.length coo), (11, .slice agg gg.length cgg), (12, .int .i64 (i : Int))])
      (fun ⟨oo, aoo, coo, Soo, gg, agg, cgg, Sgg, i⟩ => [own tInt Sgg agg cgg gg, own tInt Soo aoo coo oo, outer w0 []])
      (fun ⟨oo, aoo, coo, Soo, gg, agg, cgg, Sgg, i⟩ => Seg.BI l key first room oo gg i)
      (fun ⟨oo, aoo, coo, Soo, gg, agg, cgg, Sgg, i⟩ => l.length - i)
      ([], none, 0, (fun _ => False), [], none, 0, (fun _ => False), 0) ?_ (Sub.cons rfl (Sub.cons rfl (Sub.cons rfl (Sub.cons rfl (Sub.cons rfl (Sub.cons rfl (Sub.nil _))))))) (fun _ hw => hw) ?_
    · first | exact Seg.BI.start1 hy1.1 (by omega) | exact Seg.BI.start2 hy1.1 (by omega)
    rintro ⟨oo, aoo, coo, Soo, gg, agg, cgg, Sgg, i⟩ hI K hK28
    have hbl := hI.len
    have hbi := hI.le
    show SC _ _ Try.prog 51 w0 _ _ [(0, .slice al l.length cl), (1, .int .i64 key), (3, .int .i64 room), (10, .slice aoo oo.length coo), (11, .slice agg gg.length cgg), (12, .int .i64 (i : Int))] [own tInt Sgg agg cgg gg, own tInt Soo aoo coo oo, outer w0 []]
    refine c_seq ?_
    refine c_seq ?_
    refine c_region ?_
    refine o_pure (p_move (v := .int .i64 (i : Int)) rfl) rfl rfl rfl ?_
    refine o_pure (p_move (v := .slice al l.length cl) rfl) rfl rfl rfl ?_
    refine o_pure (p_len_slice (len := l.length) rfl rfl Try.underlying30) rfl rfl rfl ?_
    refine o_pure (p_lt (p := (i : Int)) (q := (l.length : Int)) rfl rfl) rfl rfl rfl ?_
    refine o_nil ?_
    refine q_then ?_
    refine c_cond (b := decide ((i : Int) < (l.length : Int))) rfl (fun hc29 => ?_) (fun hc29 => ?_)
    · simp only [decide_eq_true_eq] at hc29
      refine c_skip ?_
      refine q_then ?_
      refine c_seq ?_
      refine c_block ?_
      refine c_seq ?_
      refine c_seq ?_
      refine c_region ?_
      refine o_pure (p_move (v := .slice al l.length cl) rfl) rfl rfl rfl ?_
      refine o_pure (p_move (v := .int .i64 (i : Int)) rfl) rfl rfl rfl ?_
      refine o_pure (p_indexAddr (L := l) (T := tInt) (i := (i : Int)) rfl rfl (rd_outer (i := 2) rfl hl) Try.underlying30 sz3 (by omega) (by omega)) rfl rfl rfl ?_
      refine o_pure (p_loadE1 (i := i) (T := tInt) (L := l) (v := .int .i64 (l[i])) rfl (rd_outer (i := 2) rfl hl) (by first | assumption | omega) sh3 rfl) rfl rfl rfl ?_
      refine o_pure (p_move (v := .int .i64 key) rfl) rfl rfl rfl ?_
      refine o_pure (p_eq (p := l[i]) (q := key) rfl rfl) rfl rfl rfl ?_
      refine o_nil ?_
      refine q_then ?_
      refine c_cond (b := (l[i] == key)) rfl (fun hc30 => ?_) (fun hc30 => ?_)
      · simp only [beq_iff_eq] at hc30
        refine c_exit ?_
        refine q_then_exit (q_block_exit (q_then ?_))
        refine c_region ?_
        refine o_pure (p_move (v := .int .i64 (i : Int)) rfl) rfl rfl rfl ?_
        refine o_pure (p_addb (p := (i : Int)) (q := 1) rfl rfl (by omega)) rfl rfl rfl ?_
        refine o_pure (p_assign (v := .int .i64 ((i : Int) + 1)) rfl) rfl rfl rfl ?_
        refine o_nil ?_
        refine q_round hK28 (oo, aoo, coo, Soo, gg, agg, cgg, Sgg, i + 1) ?_ ?_ ?_ ?_
        · clear hK28
          first | exact hI.skip (by omega) (by assumption) | exact hI.add (by omega) (by assumption) (by assumption) | exact hI.drop (by omega) (by assumption) hy1.1 (by assumption)
        · (try dsimp only); omega
        · exact Sub.cons rfl (Sub.cons rfl (Sub.cons rfl (Sub.cons rfl (Sub.cons rfl (Sub.cons rfl (Sub.nil _))))))
        · exact fun _ hw => HeapIs.pick hw [0, 1, 2] (by decide) rfl
      · simp only [beq_eq_false_iff_ne, ne_eq] at hc30
        refine c_skip ?_
        refine q_then ?_
        refine c_seq ?_
        refine c_region ?_
        refine o_pure (p_move (v := .slice aoo oo.length coo) rfl) rfl rfl rfl ?_
        refine o_pure (p_len_slice (len := oo.length) rfl rfl Try.underlying30) rfl rfl rfl ?_
        refine o_pure (p_move (v := .int .i64 room) rfl) rfl rfl rfl ?_
        refine o_pure (p_lt (p := (oo.length : Int)) (q := room) rfl rfl) rfl rfl rfl ?_
        refine o_nil ?_
        refine q_then ?_
        refine c_cond (b := decide ((oo.length : Int) < room)) rfl (fun hc31 => ?_) (fun hc31 => ?_)
        · simp only [decide_eq_true_eq] at hc31
          refine c_region ?_
          refine o_pure (p_move (v := .slice aoo oo.length coo) rfl) rfl rfl rfl ?_
          refine o_pure (p_move (v := .slice al l.length cl) rfl) rfl rfl rfl ?_
          refine o_pure (p_move (v := .int .i64 (i : Int)) rfl) rfl rfl rfl ?_
          refine o_pure (p_indexAddr (L := l) (T := tInt) (i := (i : Int)) rfl rfl (rd_outer (i := 2) rfl hl) Try.underlying30 sz3 (by omega) (by omega)) rfl rfl rfl ?_
          refine o_pure (p_loadE1 (i := i) (T := tInt) (L := l) (v := .int .i64 (l[i])) rfl (rd_outer (i := 2) rfl hl) (by first | assumption | omega) sh3 rfl) rfl rfl rfl ?_
          refine o_buildSlice (m := 1) (T := tInt) (L := [l[i]]) (vs := [.int .i64 (l[i])]) rfl rfl rfl rfl Try.underlying30 sz3 (by decide) ze3 rfl (by decide) rfl (fun S32 a33 => ?_)
          refine o_append (i := 2) (L := oo) (M := [l[i]]) (T := tInt) rfl rfl rfl (rd_own (i := 0) rfl) Try.underlying30 Try.underlying30 (by intro k h; cases h) el3 (by intro z; simp [tInt, one1]) (by decide) (by first | omega | (simp only [List.length_cons, List.length_nil]; omega) | (simp only [List.length_append, List.length_cons, List.length_nil, List.length_take, List.length_drop]; omega)) rfl (fun a35 c36 S37 => ?_)
          refine o_pure (p_assign (v := .slice a35 (oo ++ [l[i]]).length c36) rfl) rfl rfl rfl ?_
          refine o_nil ?_
          refine q_block_normal (q_then ?_)
          refine c_region ?_
          refine o_pure (p_move (v := .int .i64 (i : Int)) rfl) rfl rfl rfl ?_
          refine o_pure (p_addb (p := (i : Int)) (q := 1) rfl rfl (by omega)) rfl rfl rfl ?_
          refine o_pure (p_assign (v := .int .i64 ((i : Int) + 1)) rfl) rfl rfl rfl ?_
          refine o_nil ?_
          refine q_round hK28 ((oo ++ [l[i]]), a35, c36, S37, gg, agg, cgg, Sgg, i + 1) ?_ ?_ ?_ ?_
          · clear hK28
            first | exact hI.skip (by omega) (by assumption) | exact hI.add (by omega) (by assumption) (by assumption) | exact hI.drop (by omega) (by assumption) hy1.1 (by assumption)
          · (try dsimp only); omega
          · exact Sub.cons rfl (Sub.cons rfl (Sub.cons rfl (Sub.cons rfl (Sub.cons rfl (Sub.cons rfl (Sub.nil _))))))
          · exact fun _ hw => HeapIs.pick hw [1, 2, 3] (by decide) rfl
        · simp only [decide_eq_false_iff_not, Int.not_lt] at hc31
          refine c_region ?_
          refine o_pure (p_move (v := .slice agg gg.length cgg) rfl) rfl rfl rfl ?_
          refine o_pure (p_move (v := .slice al l.length cl) rfl) rfl rfl rfl ?_
          refine o_pure (p_move (v := .int .i64 (i : Int)) rfl) rfl rfl rfl ?_
          refine o_pure (p_indexAddr (L := l) (T := tInt) (i := (i : Int)) rfl rfl (rd_outer (i := 2) rfl hl) Try.underlying30 sz3 (by omega) (by omega)) rfl rfl rfl ?_
          refine o_pure (p_loadE1 (i := i) (T := tInt) (L := l) (v := .int .i64 (l[i])) rfl (rd_outer (i := 2) rfl hl) (by first | assumption | omega) sh3 rfl) rfl rfl rfl ?_
          refine o_buildSlice (m := 1) (T := tInt) (L := [l[i]]) (vs := [.int .i64 (l[i])]) rfl rfl rfl rfl Try.underlying30 sz3 (by decide) ze3 rfl (by decide) rfl (fun S38 a39 => ?_)
          refine o_append (i := 1) (L := gg) (M := [l[i]]) (T := tInt) rfl rfl rfl (rd_own (i := 0) rfl) Try.underlying30 Try.underlying30 (by intro k h; cases h) el3 (by intro z; simp [tInt, one1]) (by decide) (by first | omega | (simp only [List.length_cons, List.length_nil]; omega) | (simp only [List.length_append, List.length_cons, List.length_nil, List.length_take, List.length_drop]; omega)) rfl (fun a41 c42 S43 => ?_)
          refine o_pure (p_assign (v := .slice a41 (gg ++ [l[i]]).length c42) rfl) rfl rfl rfl ?_
          refine o_nil ?_
          refine q_block_normal (q_then ?_)
          refine c_region ?_
          refine o_pure (p_move (v := .int .i64 (i : Int)) rfl) rfl rfl rfl ?_
          refine o_pure (p_addb (p := (i : Int)) (q := 1) rfl rfl (by omega)) rfl rfl rfl ?_
          refine o_pure (p_assign (v := .int .i64 ((i : Int) + 1)) rfl) rfl rfl rfl ?_
          refine o_nil ?_
          refine q_round hK28 (oo, aoo, coo, Soo, (gg ++ [l[i]]), a41, c42, S43, i + 1) ?_ ?_ ?_ ?_
          · clear hK28
            first | exact hI.skip (by omega) (by assumption) | exact hI.add (by omega) (by assumption) (by assumption) | exact hI.drop (by omega) (by assumption) hy1.1 (by assumption)
          · (try dsimp only); omega
          · exact Sub.cons rfl (Sub.cons rfl (Sub.cons rfl (Sub.cons rfl (Sub.cons rfl (Sub.cons rfl (Sub.nil _))))))
          · exact fun _ hw => HeapIs.pick hw [1, 2, 3] (by decide) rfl
    · simp only [decide_eq_false_iff_not, Int.not_lt] at hc29
      refine c_exit ?_
      refine q_then_exit (q_then_exit (q_block_exit (q_then ?_)))
      refine c_seq ?_
      refine c_region ?_
      refine o_pure (p_move (v := .slice aoo oo.length coo) rfl) rfl rfl rfl ?_
      refine o_pure (p_move (v := .slice agg gg.length cgg) rfl) rfl rfl rfl ?_
      refine o_pure (p_assign (v := .slice aoo oo.length coo) rfl) rfl rfl rfl ?_
      refine o_pure (p_assign (v := .slice agg gg.length cgg) rfl) rfl rfl rfl ?_
      refine o_nil ?_
      refine q_then ?_
      refine c_ret ?_
      have hr0 : (oo : List Int) = ((Seg.but l key first).take room.toNat) := by
        first | exact (hI.done (by omega)).1 | exact (hI.done (by omega)).2
      have hr1 : (gg : List Int) = ((Seg.but l key first).drop room.toNat) := by
        first | exact (hI.done (by omega)).1 | exact (hI.done (by omega)).2
      refine q_endX (p := (aoo, coo, Soo, agg, cgg, Sgg)) (rt2 rfl (r_tmp rfl) (r_tmp rfl)) ?_ (fun w hw => ?_)
      · exact (by have hcc := congr (congrArg (fun (y0 : List Int) (y1 : List Int) => (.tuple #[.slice aoo y0.length coo, .slice agg y1.length cgg] : Value)) hr0) hr1; exact hcc)
      · have h2 := hw.pick (H' := [outer w0 [], own tInt Soo aoo coo oo, own tInt Sgg agg cgg gg]) [2, 1, 0] (by decide) rfl
        exact Eq.mp (congrArg (fun z => HeapIs w0 ((outer w0 []) :: z) w) ((by have hcc := congr (congrArg (fun (y0 : List Int) (y1 : List Int) => ([own tInt Soo aoo coo y0, own tInt Sgg agg cgg y1] : List Ent)) hr0) hr1; exact hcc))) h2

set_option maxHeartbeats 8000000 in
set_option maxRecDepth 100000 in
theorem rstouch_ok (h : DHalls) (ah_0 : Option Addr) (ch_0 : Nat) (ah_1 : Option Addr) (ch_1 : Nat) (key : Int) (hy1 : Seg.Ok h ∧ Lru.okKey key = true) : FnX Try.prog 37 [.agg #[.int .i64 h.first, .int .i64 h.second, .slice ah_0 h.young.length ch_0, .slice ah_1 h.old.length ch_1], .int .i64 key] [] (fun w => SlR tInt (outer w []).S w ah_0 ch_0 h.young ∧ SlR tInt (outer w []).S w ah_1 ch_1 h.old) (Option Addr × Nat × (Nat → Prop) × Option Addr × Nat × (Nat → Prop) × Option Addr × Nat × (Nat → Prop)) (fun p => .tuple #[.agg #[.int .i64 (((Seg.touch h key).1).first), .int .i64 (((Seg.touch h key).1).second), .slice p.1 (((Seg.touch h key).1).young).length p.2.1, .slice p.2.2.2.1 (((Seg.touch h key).1).old).length p.2.2.2.2.1], .bool ((Seg.touch h key).2.1), .slice p.2.2.2.2.2.2.1 ((Seg.touch h key).2.2).length p.2.2.2.2.2.2.2.1]) (fun p => [own tInt p.2.2.1 p.1 p.2.1 (((Seg.touch h key).1).young), own tInt p.2.2.2.2.2.1 p.2.2.2.1 p.2.2.2.2.1 (((Seg.touch h key).1).old), own tInt p.2.2.2.2.2.2.2.2 p.2.2.2.2.2.2.1 p.2.2.2.2.2.2.2.1 ((Seg.touch h key).2.2)]) := by
  refine fnX (nt := 65) (F0 := [(0, .agg #[.int .i64 h.first, .int .i64 h.second, .slice ah_0 h.young.length ch_0, .slice ah_1 h.old.length ch_1]), (1, .int .i64 key)]) Try.func37 rfl Try.ntmps37 rfl rfl (fun w0 hpre => ?_)
  obtain ⟨hh_0, hh_1⟩ := hpre
  have hlhh_0 := hh_0.2.1
  have hlhh_1 := hh_1.2.1
  have hfr := hy1.1.first
  have hse := hy1.1.second
  have hl1 := hy1.1.len1
  have hl2 := hy1.1.len2
  refine c_seq ?_
  refine c_region ?_
  refine o_box (v := .agg #[.int .i64 h.first, .int .i64 h.second, .slice ah_0 h.young.length ch_0, .slice ah_1 h.old.length ch_1]) rfl rfl (fun B1 => ?_)
  refine o_alloc ze58 rfl (fun B2 => ?_)
  refine o_pure (p_assign (v := .bool false) rfl) rfl rfl rfl ?_
  refine o_pure (p_assign (v := .slice none 0 0) rfl) rfl rfl rfl ?_
  refine o_nil ?_
  refine q_then ?_
  refine c_seq ?_
  refine c_region ?_
  refine o_pure (p_fieldAddr (B := B1) (j := 0) (j' := 0) rfl fo58_0 rfl) rfl rfl rfl ?_
  refine o_pure (p_load (i := 1) (v := .int .i64 h.first) rfl rfl sh3 rfl) rfl rfl rfl ?_
  refine o_pure (p_fieldAddr (B := B1) (j := 0) (j' := 1) rfl fo58_1 rfl) rfl rfl rfl ?_
  refine o_pure (p_load (i := 1) (v := .int .i64 h.second) rfl rfl sh3 rfl) rfl rfl rfl ?_
  refine o_pure (p_build (cells := [.int .i64 h.first, .int .i64 h.second, .slice none 0 0, .slice none 0 0]) fp58 ze58 rfl rfl) rfl rfl rfl ?_
  refine o_alloc ze58 rfl (fun B3 => ?_)
  refine o_storeN (i := 0) (vs := [.int .i64 h.first, .int .i64 h.second, .slice none 0 0, .slice none 0 0]) (cs' := [.int .i64 h.first, .int .i64 h.second, .slice none 0 0, .slice none 0 0]) rfl rfl rfl sz58 rfl rfl rfl rfl ?_
  refine o_nil ?_
  refine q_then ?_
  refine c_seq ?_
  refine c_region ?_
  refine o_pure (p_assign (v := .slice none 0 0) rfl) rfl rfl rfl ?_
  refine o_nil ?_
  refine q_then ?_
  refine c_seq ?_
  refine c_seq ?_
  refine c_region ?_
  refine o_pure (p_fieldAddr (B := B1) (j := 0) (j' := 2) rfl fo58_2 rfl) rfl rfl rfl ?_
  refine o_pure (p_load (i := 2) (v := .slice ah_0 h.young.length ch_0) rfl rfl sh30 rfl) rfl rfl rfl ?_
  refine o_pure (p_move (v := .int .i64 key) rfl) rfl rfl rfl ?_
  refine o_call0 (v := .bool (Ref.hasInt h.young key)) rfl (hasInt_ok h.young ah_0 ch_0 key) hf30 (fun w hw => (rd_outer (i := 3) rfl hh_0) w hw) rfl ?_
  refine o_pure (p_move (v := .bool (Ref.hasInt h.young key)) rfl) rfl rfl rfl ?_
  refine o_or (p := 23) 5 (Ref.hasInt h.old key) ?_ ?_ ?_
  · intro hb4 hk
    skip
    refine o_unguard 18 rfl rfl ?_
    refine o_pure (p_fieldAddr (B := B1) (j := 0) (j' := 3) rfl fo58_3 rfl) rfl rfl rfl ?_
    refine o_unguard 18 rfl rfl ?_
    refine o_pure (p_load (i := 2) (v := .slice ah_1 h.old.length ch_1) rfl rfl sh30 rfl) rfl rfl rfl ?_
    refine o_unguard 18 rfl rfl ?_
    refine o_pure (p_move (v := .int .i64 key) rfl) rfl rfl rfl ?_
    refine o_unguard 18 rfl rfl ?_
    refine o_call0 (v := .bool (Ref.hasInt h.old key)) rfl (hasInt_ok h.old ah_1 ch_1 key) hf30 (fun w hw => (rd_outer (i := 3) rfl hh_1) w hw) rfl ?_
    refine o_pure (p_pick_false (v := .bool (Ref.hasInt h.old key)) rfl rfl) rfl rfl rfl ?_
    exact o_sub (Sub.cons rfl (Sub.skip rfl (Sub.skip rfl (Sub.skip rfl (Sub.skip rfl (Sub.skip rfl (Sub.skip rfl (Sub.refl _)))))))) hk
  · intro hb4 hk
    refine o_guard_no rfl 18 rfl rfl rfl rfl rfl ?_
    refine o_guard_no rfl 18 rfl rfl rfl rfl rfl ?_
    refine o_guard_no rfl 18 rfl rfl rfl rfl rfl ?_
    refine o_guard_no rfl 18 rfl rfl rfl rfl rfl ?_
    refine o_pure (p_pick_true (u := .bool true) rfl rfl) rfl rfl rfl ?_
    exact o_sub (Sub.cons rfl (Sub.skip rfl (Sub.skip rfl (Sub.skip rfl (Sub.skip rfl (Sub.skip rfl (Sub.skip rfl (Sub.refl _)))))))) hk
  refine o_nil ?_
  refine q_then ?_
  refine c_cond (b := ((Ref.hasInt h.young key) || (Ref.hasInt h.old key))) rfl (fun hc5 => ?_) (fun hc5 => ?_)
  · simp only [Bool.or_eq_true] at hc5
    have ht := Seg.ref_hit hy1.1 hy1.2 hc5
    refine c_seq ?_
    refine c_region ?_
    refine o_pure (p_fieldAddr (B := B1) (j := 0) (j' := 2) rfl fo58_2 rfl) rfl rfl rfl ?_
    refine o_pure (p_load (i := 2) (v := .slice ah_0 h.young.length ch_0) rfl rfl sh30 rfl) rfl rfl rfl ?_
    refine o_pure (p_move (v := .int .i64 key) rfl) rfl rfl rfl ?_
    refine o_pure (p_fieldAddr (B := B1) (j := 0) (j' := 0) rfl fo58_0 rfl) rfl rfl rfl ?_
    refine o_pure (p_load (i := 2) (v := .int .i64 h.first) rfl rfl sh3 rfl) rfl rfl rfl ?_
    refine o_callX (pre := []) (R := [box B3 [.int .i64 h.first, .int .i64 h.second, .slice none 0 0, .slice none 0 0] 58, box B2 [.int .i64 0, .int .i64 0, .slice none 0 0, .slice none 0 0] 58, box B1 [.int .i64 h.first, .int .i64 h.second, .slice ah_0 h.young.length ch_0, .slice ah_1 h.old.length ch_1] 58, outer w0 []]) rfl (butKey_ok h.young ah_0 ch_0 key ((-1) : Int) h.first (by omega)) hf69 rfl (fun w hw => (rdX (i := 3) (js := []) rfl (by decide) rfl (fun _ hA => slR_outer hh_0 hA)) w hw) rfl ?_
    rintro ⟨a6, c7, S8, a9, c10, S11⟩
    refine o_asH (H' := [own tInt S8 a6 c7 ((Seg.but h.young key ((-1) : Int)).take h.first.toNat), own tInt S11 a9 c10 ((Seg.but h.young key ((-1) : Int)).drop h.first.toNat), box B3 [.int .i64 h.first, .int .i64 h.second, .slice none 0 0, .slice none 0 0] 58, box B2 [.int .i64 0, .int .i64 0, .slice none 0 0, .slice none 0 0] 58, box B1 [.int .i64 h.first, .int .i64 h.second, .slice ah_0 h.young.length ch_0, .slice ah_1 h.old.length ch_1] 58, outer w0 []]) rfl ?_
    refine o_pure (p_move (v := .tuple #[.slice a6 ((Seg.but h.young key ((-1) : Int)).take h.first.toNat).length c7, .slice a9 ((Seg.but h.young key ((-1) : Int)).drop h.first.toNat).length c10]) rfl) rfl rfl rfl ?_
    refine o_pure (p_extract (vs := [.slice a6 ((Seg.but h.young key ((-1) : Int)).take h.first.toNat).length c7, .slice a9 ((Seg.but h.young key ((-1) : Int)).drop h.first.toNat).length c10]) (v := .slice a6 ((Seg.but h.young key ((-1) : Int)).take h.first.toNat).length c7) rfl rfl) rfl rfl rfl ?_
    refine o_pure (p_extract (vs := [.slice a6 ((Seg.but h.young key ((-1) : Int)).take h.first.toNat).length c7, .slice a9 ((Seg.but h.young key ((-1) : Int)).drop h.first.toNat).length c10]) (v := .slice a9 ((Seg.but h.young key ((-1) : Int)).drop h.first.toNat).length c10) rfl rfl) rfl rfl rfl ?_
    refine o_pure (p_fieldAddr (B := B3) (j := 0) (j' := 2) rfl fo58_2 rfl) rfl rfl rfl ?_
    refine o_store (i := 2) (v := .slice a6 ((Seg.but h.young key ((-1) : Int)).take h.first.toNat).length c7) (cs' := [.int .i64 h.first, .int .i64 h.second, .slice a6 ((Seg.but h.young key ((-1) : Int)).take h.first.toNat).length c7, .slice none 0 0]) rfl rfl rfl sz30 rfl rfl rfl ?_
    refine o_nil ?_
    refine q_then ?_
    refine c_seq ?_
    refine c_region ?_
    refine o_pure (p_fieldAddr (B := B1) (j := 0) (j' := 3) rfl fo58_3 rfl) rfl rfl rfl ?_
    refine o_pure (p_load (i := 4) (v := .slice ah_1 h.old.length ch_1) rfl rfl sh30 rfl) rfl rfl rfl ?_
    refine o_pure (p_move (v := .int .i64 key) rfl) rfl rfl rfl ?_
    refine o_pure (p_move (v := .int .i64 key) rfl) rfl rfl rfl ?_
    refine o_pure (p_fieldAddr (B := B1) (j := 0) (j' := 1) rfl fo58_1 rfl) rfl rfl rfl ?_
    refine o_pure (p_load (i := 4) (v := .int .i64 h.second) rfl rfl sh3 rfl) rfl rfl rfl ?_
    refine o_callX (pre := []) (R := [own tInt S8 a6 c7 ((Seg.but h.young key ((-1) : Int)).take h.first.toNat), own tInt S11 a9 c10 ((Seg.but h.young key ((-1) : Int)).drop h.first.toNat), box B3 [.int .i64 h.first, .int .i64 h.second, .slice a6 ((Seg.but h.young key ((-1) : Int)).take h.first.toNat).length c7, .slice none 0 0] 58, box B2 [.int .i64 0, .int .i64 0, .slice none 0 0, .slice none 0 0] 58, box B1 [.int .i64 h.first, .int .i64 h.second, .slice ah_0 h.young.length ch_0, .slice ah_1 h.old.length ch_1] 58, outer w0 []]) rfl (butKey_ok h.old ah_1 ch_1 key key h.second (by omega)) hf69 rfl (fun w hw => (rdX (i := 5) (js := []) rfl (by decide) rfl (fun _ hA => slR_outer hh_1 hA)) w hw) rfl ?_
    rintro ⟨a14, c15, S16, a17, c18, S19⟩
    refine o_asH (H' := [own tInt S16 a14 c15 ((Seg.but h.old key key).take h.second.toNat), own tInt S19 a17 c18 ((Seg.but h.old key key).drop h.second.toNat), own tInt S8 a6 c7 ((Seg.but h.young key ((-1) : Int)).take h.first.toNat), own tInt S11 a9 c10 ((Seg.but h.young key ((-1) : Int)).drop h.first.toNat), box B3 [.int .i64 h.first, .int .i64 h.second, .slice a6 ((Seg.but h.young key ((-1) : Int)).take h.first.toNat).length c7, .slice none 0 0] 58, box B2 [.int .i64 0, .int .i64 0, .slice none 0 0, .slice none 0 0] 58, box B1 [.int .i64 h.first, .int .i64 h.second, .slice ah_0 h.young.length ch_0, .slice ah_1 h.old.length ch_1] 58, outer w0 []]) rfl ?_
    refine o_pure (p_move (v := .tuple #[.slice a14 ((Seg.but h.old key key).take h.second.toNat).length c15, .slice a17 ((Seg.but h.old key key).drop h.second.toNat).length c18]) rfl) rfl rfl rfl ?_
    refine o_pure (p_extract (vs := [.slice a14 ((Seg.but h.old key key).take h.second.toNat).length c15, .slice a17 ((Seg.but h.old key key).drop h.second.toNat).length c18]) (v := .slice a14 ((Seg.but h.old key key).take h.second.toNat).length c15) rfl rfl) rfl rfl rfl ?_
    refine o_pure (p_extract (vs := [.slice a14 ((Seg.but h.old key key).take h.second.toNat).length c15, .slice a17 ((Seg.but h.old key key).drop h.second.toNat).length c18]) (v := .slice a17 ((Seg.but h.old key key).drop h.second.toNat).length c18) rfl rfl) rfl rfl rfl ?_
    refine o_pure (p_fieldAddr (B := B3) (j := 0) (j' := 3) rfl fo58_3 rfl) rfl rfl rfl ?_
    refine o_store (i := 4) (v := .slice a14 ((Seg.but h.old key key).take h.second.toNat).length c15) (cs' := [.int .i64 h.first, .int .i64 h.second, .slice a6 ((Seg.but h.young key ((-1) : Int)).take h.first.toNat).length c7, .slice a14 ((Seg.but h.old key key).take h.second.toNat).length c15]) rfl rfl rfl sz30 rfl rfl rfl ?_
    refine o_pure (p_assign (v := .slice a17 ((Seg.but h.old key key).drop h.second.toNat).length c18) rfl) rfl rfl rfl ?_
    refine o_nil ?_
    refine q_then ?_
    refine c_seq ?_
    refine c_region ?_
    refine o_pure (p_load_agg (i := 4) (vs := [.int .i64 h.first, .int .i64 h.second, .slice a6 ((Seg.but h.young key ((-1) : Int)).take h.first.toNat).length c7, .slice a14 ((Seg.but h.old key key).take h.second.toNat).length c15]) rfl rfl sh58 rfl rfl) rfl rfl rfl ?_
    refine o_pure (p_move (v := .slice a17 ((Seg.but h.old key key).drop h.second.toNat).length c18) rfl) rfl rfl rfl ?_
    refine o_storeN (i := 5) (vs := [.int .i64 h.first, .int .i64 h.second, .slice a6 ((Seg.but h.young key ((-1) : Int)).take h.first.toNat).length c7, .slice a14 ((Seg.but h.old key key).take h.second.toNat).length c15]) (cs' := [.int .i64 h.first, .int .i64 h.second, .slice a6 ((Seg.but h.young key ((-1) : Int)).take h.first.toNat).length c7, .slice a14 ((Seg.but h.old key key).take h.second.toNat).length c15]) rfl rfl rfl sz58 rfl rfl rfl rfl ?_
    refine o_pure (p_assign (v := .bool true) rfl) rfl rfl rfl ?_
    refine o_pure (p_assign (v := .slice a17 ((Seg.but h.old key key).drop h.second.toNat).length c18) rfl) rfl rfl rfl ?_
    refine o_nil ?_
    refine q_then ?_
    refine c_ret ?_
    refine q_then_ret ?_
    have hr0 : (h.first : Int) = ((Seg.touch h key).1).first := by
      first | (rw [ht]; done) | (rw [ht]; rfl)
    have hr1 : (h.second : Int) = ((Seg.touch h key).1).second := by
      first | (rw [ht]; done) | (rw [ht]; rfl)
    have hr2 : (((Seg.but h.young key ((-1) : Int)).take h.first.toNat) : List Int) = ((Seg.touch h key).1).young := by
      first | (rw [ht]; done) | (rw [ht]; rfl)
    have hr3 : (((Seg.but h.old key key).take h.second.toNat) : List Int) = ((Seg.touch h key).1).old := by
      first | (rw [ht]; done) | (rw [ht]; rfl)
    have hr4 : (true : Bool) = ((Seg.touch h key).2.1) := by
      first | (rw [ht]; done) | (rw [ht]; rfl)
    have hr5 : (((Seg.but h.old key key).drop h.second.toNat) : List Int) = ((Seg.touch h key).2.2) := by
      first | (rw [ht]; done) | (rw [ht]; rfl)
    refine q_endX (p := (a6, c7, S8, a14, c15, S16, a17, c18, S19)) (rt3 rfl (r_cell (i := 5) rfl rfl sh58 rfl) (r_tmp rfl) (r_tmp rfl)) ?_ (fun w hw => ?_)
    · exact (by have hcc := congr (congr (congr (congr (congr (congrArg (fun (y0 : Int) (y1 : Int) (y2 : List Int) (y3 : List Int) (y4 : Bool) (y5 : List Int) => (.tuple #[.agg #[.int .i64 y0, .int .i64 y1, .slice a6 y2.length c7, .slice a14 y3.length c15], .bool y4, .slice a17 y5.length c18] : Value)) hr0) hr1) hr2) hr3) hr4) hr5; exact hcc)
    · have h2 := hw.pick (H' := [outer w0 [], own tInt S8 a6 c7 ((Seg.but h.young key ((-1) : Int)).take h.first.toNat), own tInt S16 a14 c15 ((Seg.but h.old key key).take h.second.toNat), own tInt S19 a17 c18 ((Seg.but h.old key key).drop h.second.toNat)]) [7, 2, 0, 1] (by decide) rfl
      exact Eq.mp (congrArg (fun z => HeapIs w0 ((outer w0 []) :: z) w) ((by have hcc := congr (congr (congr (congr (congr (congrArg (fun (y0 : Int) (y1 : Int) (y2 : List Int) (y3 : List Int) (y4 : Bool) (y5 : List Int) => ([own tInt S8 a6 c7 y2, own tInt S16 a14 c15 y3, own tInt S19 a17 c18 y5] : List Ent)) hr0) hr1) hr2) hr3) hr4) hr5; exact hcc))) h2
  · simp only [Bool.or_eq_false_iff] at hc5
    have ht := Seg.ref_miss hy1.2 hc5 hy1.1
    refine c_skip ?_
    refine q_then ?_
    refine c_seq ?_
    refine c_region ?_
    refine o_buildSlice (m := 0) (T := tInt) (L := []) (vs := []) rfl rfl rfl rfl Try.underlying30 sz3 (by decide) ze3 rfl (by decide) rfl (fun S22 a23 => ?_)
    refine o_pure (p_fieldAddr (B := B1) (j := 0) (j' := 3) rfl fo58_3 rfl) rfl rfl rfl ?_
    refine o_pure (p_load (i := 3) (v := .slice ah_1 h.old.length ch_1) rfl rfl sh30 rfl) rfl rfl rfl ?_
    refine o_append (i := 0) (L := []) (M := h.old) (T := tInt) rfl rfl rfl (rd_outer (i := 4) rfl hh_1) Try.underlying30 Try.underlying30 (by intro k h; cases h) el3 (by intro z; simp [tInt, one1]) (by decide) (by first | omega | (simp only [List.length_cons, List.length_nil]; omega) | (simp only [List.length_append, List.length_cons, List.length_nil, List.length_take, List.length_drop]; omega)) rfl (fun a25 c26 S27 => ?_)
    refine o_pure (p_fieldAddr (B := B3) (j := 0) (j' := 3) rfl fo58_3 rfl) rfl rfl rfl ?_
    refine o_store (i := 1) (v := .slice a25 h.old.length c26) (cs' := [.int .i64 h.first, .int .i64 h.second, .slice none 0 0, .slice a25 h.old.length c26]) rfl rfl rfl sz30 rfl rfl rfl ?_
    refine o_nil ?_
    refine q_then ?_
    refine c_seq ?_
    refine c_region ?_
    refine o_pure (p_fieldAddr (B := B1) (j := 0) (j' := 2) rfl fo58_2 rfl) rfl rfl rfl ?_
    refine o_pure (p_load (i := 3) (v := .slice ah_0 h.young.length ch_0) rfl rfl sh30 rfl) rfl rfl rfl ?_
    refine o_pure (p_move (v := .int .i64 key) rfl) rfl rfl rfl ?_
    refine o_pure (p_move (v := .int .i64 key) rfl) rfl rfl rfl ?_
    refine o_pure (p_fieldAddr (B := B1) (j := 0) (j' := 0) rfl fo58_0 rfl) rfl rfl rfl ?_
    refine o_pure (p_load (i := 3) (v := .int .i64 h.first) rfl rfl sh3 rfl) rfl rfl rfl ?_
    refine o_callX (pre := []) (R := [own tInt S27 a25 c26 h.old, box B3 [.int .i64 h.first, .int .i64 h.second, .slice none 0 0, .slice a25 h.old.length c26] 58, box B2 [.int .i64 0, .int .i64 0, .slice none 0 0, .slice none 0 0] 58, box B1 [.int .i64 h.first, .int .i64 h.second, .slice ah_0 h.young.length ch_0, .slice ah_1 h.old.length ch_1] 58, outer w0 []]) rfl (butKey_ok h.young ah_0 ch_0 key key h.first (by omega)) hf69 rfl (fun w hw => (rdX (i := 4) (js := []) rfl (by decide) rfl (fun _ hA => slR_outer hh_0 hA)) w hw) rfl ?_
    rintro ⟨a28, c29, S30, a31, c32, S33⟩
    refine o_asH (H' := [own tInt S30 a28 c29 ((Seg.but h.young key key).take h.first.toNat), own tInt S33 a31 c32 ((Seg.but h.young key key).drop h.first.toNat), own tInt S27 a25 c26 h.old, box B3 [.int .i64 h.first, .int .i64 h.second, .slice none 0 0, .slice a25 h.old.length c26] 58, box B2 [.int .i64 0, .int .i64 0, .slice none 0 0, .slice none 0 0] 58, box B1 [.int .i64 h.first, .int .i64 h.second, .slice ah_0 h.young.length ch_0, .slice ah_1 h.old.length ch_1] 58, outer w0 []]) rfl ?_
    refine o_pure (p_move (v := .tuple #[.slice a28 ((Seg.but h.young key key).take h.first.toNat).length c29, .slice a31 ((Seg.but h.young key key).drop h.first.toNat).length c32]) rfl) rfl rfl rfl ?_
    refine o_pure (p_extract (vs := [.slice a28 ((Seg.but h.young key key).take h.first.toNat).length c29, .slice a31 ((Seg.but h.young key key).drop h.first.toNat).length c32]) (v := .slice a28 ((Seg.but h.young key key).take h.first.toNat).length c29) rfl rfl) rfl rfl rfl ?_
    refine o_pure (p_extract (vs := [.slice a28 ((Seg.but h.young key key).take h.first.toNat).length c29, .slice a31 ((Seg.but h.young key key).drop h.first.toNat).length c32]) (v := .slice a31 ((Seg.but h.young key key).drop h.first.toNat).length c32) rfl rfl) rfl rfl rfl ?_
    refine o_pure (p_fieldAddr (B := B3) (j := 0) (j' := 2) rfl fo58_2 rfl) rfl rfl rfl ?_
    refine o_store (i := 3) (v := .slice a28 ((Seg.but h.young key key).take h.first.toNat).length c29) (cs' := [.int .i64 h.first, .int .i64 h.second, .slice a28 ((Seg.but h.young key key).take h.first.toNat).length c29, .slice a25 h.old.length c26]) rfl rfl rfl sz30 rfl rfl rfl ?_
    refine o_pure (p_assign (v := .slice a31 ((Seg.but h.young key key).drop h.first.toNat).length c32) rfl) rfl rfl rfl ?_
    refine o_nil ?_
    refine q_then ?_
    refine c_seq ?_
    refine c_region ?_
    refine o_pure (p_load_agg (i := 3) (vs := [.int .i64 h.first, .int .i64 h.second, .slice a28 ((Seg.but h.young key key).take h.first.toNat).length c29, .slice a25 h.old.length c26]) rfl rfl sh58 rfl rfl) rfl rfl rfl ?_
    refine o_pure (p_move (v := .slice a31 ((Seg.but h.young key key).drop h.first.toNat).length c32) rfl) rfl rfl rfl ?_
    refine o_storeN (i := 4) (vs := [.int .i64 h.first, .int .i64 h.second, .slice a28 ((Seg.but h.young key key).take h.first.toNat).length c29, .slice a25 h.old.length c26]) (cs' := [.int .i64 h.first, .int .i64 h.second, .slice a28 ((Seg.but h.young key key).take h.first.toNat).length c29, .slice a25 h.old.length c26]) rfl rfl rfl sz58 rfl rfl rfl rfl ?_
    refine o_pure (p_assign (v := .bool false) rfl) rfl rfl rfl ?_
    refine o_pure (p_assign (v := .slice a31 ((Seg.but h.young key key).drop h.first.toNat).length c32) rfl) rfl rfl rfl ?_
    refine o_nil ?_
    refine q_then ?_
    refine c_ret ?_
    have hr0 : (h.first : Int) = ((Seg.touch h key).1).first := by
      first | (rw [ht]; done) | (rw [ht]; rfl)
    have hr1 : (h.second : Int) = ((Seg.touch h key).1).second := by
      first | (rw [ht]; done) | (rw [ht]; rfl)
    have hr2 : (((Seg.but h.young key key).take h.first.toNat) : List Int) = ((Seg.touch h key).1).young := by
      first | (rw [ht]; done) | (rw [ht]; rfl)
    have hr3 : (h.old : List Int) = ((Seg.touch h key).1).old := by
      first | (rw [ht]; done) | (rw [ht]; rfl)
    have hr4 : (false : Bool) = ((Seg.touch h key).2.1) := by
      first | (rw [ht]; done) | (rw [ht]; rfl)
    have hr5 : (((Seg.but h.young key key).drop h.first.toNat) : List Int) = ((Seg.touch h key).2.2) := by
      first | (rw [ht]; done) | (rw [ht]; rfl)
    refine q_endX (p := (a28, c29, S30, a25, c26, S27, a31, c32, S33)) (rt3 rfl (r_cell (i := 4) rfl rfl sh58 rfl) (r_tmp rfl) (r_tmp rfl)) ?_ (fun w hw => ?_)
    · exact (by have hcc := congr (congr (congr (congr (congr (congrArg (fun (y0 : Int) (y1 : Int) (y2 : List Int) (y3 : List Int) (y4 : Bool) (y5 : List Int) => (.tuple #[.agg #[.int .i64 y0, .int .i64 y1, .slice a28 y2.length c29, .slice a25 y3.length c26], .bool y4, .slice a31 y5.length c32] : Value)) hr0) hr1) hr2) hr3) hr4) hr5; exact hcc)
    · have h2 := hw.pick (H' := [outer w0 [], own tInt S30 a28 c29 ((Seg.but h.young key key).take h.first.toNat), own tInt S27 a25 c26 h.old, own tInt S33 a31 c32 ((Seg.but h.young key key).drop h.first.toNat)]) [6, 0, 2, 1] (by decide) rfl
      exact Eq.mp (congrArg (fun z => HeapIs w0 ((outer w0 []) :: z) w) ((by have hcc := congr (congr (congr (congr (congr (congrArg (fun (y0 : Int) (y1 : Int) (y2 : List Int) (y3 : List Int) (y4 : Bool) (y5 : List Int) => ([own tInt S30 a28 c29 y2, own tInt S27 a25 c26 y3, own tInt S33 a31 c32 y5] : List Ent)) hr0) hr1) hr2) hr3) hr4) hr5; exact hcc))) h2

set_option maxHeartbeats 8000000 in
set_option maxRecDepth 100000 in
theorem sameHalls_ok (a : DHalls) (aa_0 : Option Addr) (ca_0 : Nat) (aa_1 : Option Addr) (ca_1 : Nat) (b : DHalls) (ab_0 : Option Addr) (cb_0 : Nat) (ab_1 : Option Addr) (cb_1 : Nat) : Fn0 Try.prog 42 [.agg #[.int .i64 a.first, .int .i64 a.second, .slice aa_0 a.young.length ca_0, .slice aa_1 a.old.length ca_1], .agg #[.int .i64 b.first, .int .i64 b.second, .slice ab_0 b.young.length cb_0, .slice ab_1 b.old.length cb_1]] (fun w => Rd tInt w aa_0 ca_0 a.young ∧ Rd tInt w aa_1 ca_1 a.old ∧ Rd tInt w ab_0 cb_0 b.young ∧ Rd tInt w ab_1 cb_1 b.old) (.bool (decide (a = b))) := by
  refine fn0 (nt := 31) (F0 := [(0, .agg #[.int .i64 a.first, .int .i64 a.second, .slice aa_0 a.young.length ca_0, .slice aa_1 a.old.length ca_1]), (1, .agg #[.int .i64 b.first, .int .i64 b.second, .slice ab_0 b.young.length cb_0, .slice ab_1 b.old.length cb_1])]) Try.func42 rfl Try.ntmps42 rfl rfl (fun w0 hpre => ?_)
  obtain ⟨ha_0, ha_1, hb_0, hb_1⟩ := hpre
  have hlha_0 := ha_0.2.1
  have hlha_1 := ha_1.2.1
  have hlhb_0 := hb_0.2.1
  have hlhb_1 := hb_1.2.1
  refine c_seq ?_
  refine c_region ?_
  refine o_box (v := .agg #[.int .i64 a.first, .int .i64 a.second, .slice aa_0 a.young.length ca_0, .slice aa_1 a.old.length ca_1]) rfl rfl (fun B1 => ?_)
  refine o_box (v := .agg #[.int .i64 b.first, .int .i64 b.second, .slice ab_0 b.young.length cb_0, .slice ab_1 b.old.length cb_1]) rfl rfl (fun B2 => ?_)
  refine o_pure (p_assign (v := .bool false) rfl) rfl rfl rfl ?_
  refine o_nil ?_
  refine q_then ?_
  refine c_seq ?_
  refine c_region ?_
  refine o_pure (p_fieldAddr (B := B1) (j := 0) (j' := 0) rfl fo58_0 rfl) rfl rfl rfl ?_
  refine o_pure (p_load (i := 1) (v := .int .i64 a.first) rfl rfl sh3 rfl) rfl rfl rfl ?_
  refine o_pure (p_fieldAddr (B := B2) (j := 0) (j' := 0) rfl fo58_0 rfl) rfl rfl rfl ?_
  refine o_pure (p_load (i := 0) (v := .int .i64 b.first) rfl rfl sh3 rfl) rfl rfl rfl ?_
  refine o_pure (p_eq (p := a.first) (q := b.first) rfl rfl) rfl rfl rfl ?_
  refine o_pure (p_move (v := .bool (a.first == b.first)) rfl) rfl rfl rfl ?_
  refine o_and (p := 16) 6 (a.second == b.second) ?_ ?_ ?_
  · intro hb3 hk
    simp only [beq_iff_eq] at hb3
    refine o_unguard 10 rfl rfl ?_
    refine o_pure (p_fieldAddr (B := B1) (j := 0) (j' := 1) rfl fo58_1 rfl) rfl rfl rfl ?_
    refine o_unguard 10 rfl rfl ?_
    refine o_pure (p_load (i := 1) (v := .int .i64 a.second) rfl rfl sh3 rfl) rfl rfl rfl ?_
    refine o_unguard 10 rfl rfl ?_
    refine o_pure (p_fieldAddr (B := B2) (j := 0) (j' := 1) rfl fo58_1 rfl) rfl rfl rfl ?_
    refine o_unguard 10 rfl rfl ?_
    refine o_pure (p_load (i := 0) (v := .int .i64 b.second) rfl rfl sh3 rfl) rfl rfl rfl ?_
    refine o_unguard 10 rfl rfl ?_
    refine o_pure (p_eq (p := a.second) (q := b.second) rfl rfl) rfl rfl rfl ?_
    refine o_pure (p_pick_true (u := .bool (a.second == b.second)) rfl rfl) rfl rfl rfl ?_
    exact o_sub (Sub.cons rfl (Sub.skip rfl (Sub.skip rfl (Sub.skip rfl (Sub.skip rfl (Sub.skip rfl (Sub.skip rfl (Sub.skip rfl (Sub.refl _))))))))) hk
  · intro hb3 hk
    refine o_guard_no rfl 10 rfl rfl rfl rfl rfl ?_
    refine o_guard_no rfl 10 rfl rfl rfl rfl rfl ?_
    refine o_guard_no rfl 10 rfl rfl rfl rfl rfl ?_
    refine o_guard_no rfl 10 rfl rfl rfl rfl rfl ?_
    refine o_guard_no rfl 10 rfl rfl rfl rfl rfl ?_
    refine o_pure (p_pick_false (v := .bool false) rfl rfl) rfl rfl rfl ?_
    exact o_sub (Sub.cons rfl (Sub.skip rfl (Sub.skip rfl (Sub.skip rfl (Sub.skip rfl (Sub.skip rfl (Sub.skip rfl (Sub.skip rfl (Sub.refl _))))))))) hk
  refine o_pure (p_move (v := .bool ((a.first == b.first) && (a.second == b.second))) rfl) rfl rfl rfl ?_
  refine o_and (p := 23) 6 (Ref.sameInts a.young b.young) ?_ ?_ ?_
  · intro hb4 hk
    simp only [Bool.and_eq_true, beq_iff_eq] at hb4
    refine o_unguard 17 rfl rfl ?_
    refine o_pure (p_fieldAddr (B := B1) (j := 0) (j' := 2) rfl fo58_2 rfl) rfl rfl rfl ?_
    refine o_unguard 17 rfl rfl ?_
    refine o_pure (p_load (i := 1) (v := .slice aa_0 a.young.length ca_0) rfl rfl sh30 rfl) rfl rfl rfl ?_
    refine o_unguard 17 rfl rfl ?_
    refine o_pure (p_fieldAddr (B := B2) (j := 0) (j' := 2) rfl fo58_2 rfl) rfl rfl rfl ?_
    refine o_unguard 17 rfl rfl ?_
    refine o_pure (p_load (i := 0) (v := .slice ab_0 b.young.length cb_0) rfl rfl sh30 rfl) rfl rfl rfl ?_
    refine o_unguard 17 rfl rfl ?_
    refine o_call0 (v := .bool (Ref.sameInts a.young b.young)) rfl (sameInts_ok a.young aa_0 ca_0 b.young ab_0 cb_0) hf27 (fun w hw => ⟨(rd_base (i := 2) rfl ha_0) w hw, (rd_base (i := 2) rfl hb_0) w hw⟩) rfl ?_
    refine o_pure (p_pick_true (u := .bool (Ref.sameInts a.young b.young)) rfl rfl) rfl rfl rfl ?_
    exact o_sub (Sub.cons rfl (Sub.skip rfl (Sub.skip rfl (Sub.skip rfl (Sub.skip rfl (Sub.skip rfl (Sub.skip rfl (Sub.skip rfl (Sub.refl _))))))))) hk
  · intro hb4 hk
    refine o_guard_no rfl 17 rfl rfl rfl rfl rfl ?_
    refine o_guard_no rfl 17 rfl rfl rfl rfl rfl ?_
    refine o_guard_no rfl 17 rfl rfl rfl rfl rfl ?_
    refine o_guard_no rfl 17 rfl rfl rfl rfl rfl ?_
    refine o_guard_no rfl 17 rfl rfl rfl rfl rfl ?_
    refine o_pure (p_pick_false (v := .bool false) rfl rfl) rfl rfl rfl ?_
    exact o_sub (Sub.cons rfl (Sub.skip rfl (Sub.skip rfl (Sub.skip rfl (Sub.skip rfl (Sub.skip rfl (Sub.skip rfl (Sub.skip rfl (Sub.refl _))))))))) hk
  refine o_pure (p_move (v := .bool (((a.first == b.first) && (a.second == b.second)) && (Ref.sameInts a.young b.young))) rfl) rfl rfl rfl ?_
  refine o_and (p := 30) 6 (Ref.sameInts a.old b.old) ?_ ?_ ?_
  · intro hb5 hk
    simp only [Bool.and_eq_true, beq_iff_eq] at hb5
    refine o_unguard 24 rfl rfl ?_
    refine o_pure (p_fieldAddr (B := B1) (j := 0) (j' := 3) rfl fo58_3 rfl) rfl rfl rfl ?_
    refine o_unguard 24 rfl rfl ?_
    refine o_pure (p_load (i := 1) (v := .slice aa_1 a.old.length ca_1) rfl rfl sh30 rfl) rfl rfl rfl ?_
    refine o_unguard 24 rfl rfl ?_
    refine o_pure (p_fieldAddr (B := B2) (j := 0) (j' := 3) rfl fo58_3 rfl) rfl rfl rfl ?_
    refine o_unguard 24 rfl rfl ?_
    refine o_pure (p_load (i := 0) (v := .slice ab_1 b.old.length cb_1) rfl rfl sh30 rfl) rfl rfl rfl ?_
    refine o_unguard 24 rfl rfl ?_
    refine o_call0 (v := .bool (Ref.sameInts a.old b.old)) rfl (sameInts_ok a.old aa_1 ca_1 b.old ab_1 cb_1) hf27 (fun w hw => ⟨(rd_base (i := 2) rfl ha_1) w hw, (rd_base (i := 2) rfl hb_1) w hw⟩) rfl ?_
    refine o_pure (p_pick_true (u := .bool (Ref.sameInts a.old b.old)) rfl rfl) rfl rfl rfl ?_
    exact o_sub (Sub.cons rfl (Sub.skip rfl (Sub.skip rfl (Sub.skip rfl (Sub.skip rfl (Sub.skip rfl (Sub.skip rfl (Sub.skip rfl (Sub.refl _))))))))) hk
  · intro hb5 hk
    refine o_guard_no rfl 24 rfl rfl rfl rfl rfl ?_
    refine o_guard_no rfl 24 rfl rfl rfl rfl rfl ?_
    refine o_guard_no rfl 24 rfl rfl rfl rfl rfl ?_
    refine o_guard_no rfl 24 rfl rfl rfl rfl rfl ?_
    refine o_guard_no rfl 24 rfl rfl rfl rfl rfl ?_
    refine o_pure (p_pick_false (v := .bool false) rfl rfl) rfl rfl rfl ?_
    exact o_sub (Sub.cons rfl (Sub.skip rfl (Sub.skip rfl (Sub.skip rfl (Sub.skip rfl (Sub.skip rfl (Sub.skip rfl (Sub.skip rfl (Sub.refl _))))))))) hk
  refine o_pure (p_assign (v := .bool ((((a.first == b.first) && (a.second == b.second)) && (Ref.sameInts a.young b.young)) && (Ref.sameInts a.old b.old))) rfl) rfl rfl rfl ?_
  refine o_nil ?_
  refine q_then ?_
  refine c_ret ?_
  have hr0 : (((((a.first == b.first) && (a.second == b.second)) && (Ref.sameInts a.young b.young)) && (Ref.sameInts a.old b.old)) : Bool) = (decide (a = b)) := by
    rw [Bool.eq_iff_iff]; simp [Ref.sameInts, Seg.same_halls, and_assoc]; done
  refine q_end0 (v := .bool ((((a.first == b.first) && (a.second == b.second)) && (Ref.sameInts a.young b.young)) && (Ref.sameInts a.old b.old))) (rt1 rfl (r_tmp rfl)) (i := 2) rfl ?_
  exact (by have hcc := congrArg (fun (y0 : Bool) => (.bool y0 : Value)) hr0; exact hcc)
end Go.Proofs.Ytkndekkacimekaa
