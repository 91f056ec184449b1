/- The walks, printed by a program from the translation and a specification. -/
import Derived.Test.YtkndekkacimekaaSgF
import Derived.Test.YtkndekkacimekaaSgLaw
import Derived.Test.YtkndekkacimekaaSgW6
namespace Go.Proofs.Ytkndekkacimekaa
open Go.Sx Go.RowKit
set_option maxHeartbeats 8000000 in
set_option maxRecDepth 100000 in
theorem stouch_ok (b : DHalls) (Bb : Nat) (ab_0 : Option Addr) (cb_0 : Nat) (Sb_0 : Nat → Prop) (ab_1 : Option Addr) (cb_1 : Nat) (Sb_1 : Nat → Prop) (key : Int) (hy1 : Seg.Ok b) : FnX Try.prog 65 [.pointer (some ⟨Bb, 0, none⟩), .int .i64 key] [box Bb [.slice ab_0 b.young.length cb_0, .int .i64 b.first, .slice ab_1 b.old.length cb_1, .int .i64 b.second] 131, own tInt Sb_0 ab_0 cb_0 b.young, own tInt Sb_1 ab_1 cb_1 b.old] (fun _ => True) (Option Addr × Nat × (Nat → Prop) × Option Addr × Nat × (Nat → Prop) × Option Addr × Nat × (Nat → Prop)) (fun p => .tuple #[.bool ((Seg.touch b key).2.1), .slice p.2.2.2.2.2.2.1 ((Seg.touch b key).2.2).length p.2.2.2.2.2.2.2.1]) (fun p => [box Bb [.slice p.1 (((Seg.touch b key).1).young).length p.2.1, .int .i64 (((Seg.touch b key).1).first), .slice p.2.2.2.1 (((Seg.touch b key).1).old).length p.2.2.2.2.1, .int .i64 (((Seg.touch b key).1).second)] 131, own tInt p.2.2.1 p.1 p.2.1 (((Seg.touch b key).1).young), own tInt p.2.2.2.2.2.1 p.2.2.2.1 p.2.2.2.2.1 (((Seg.touch b key).1).old), own tInt p.2.2.2.2.2.2.2.2 p.2.2.2.2.2.2.1 p.2.2.2.2.2.2.2.1 ((Seg.touch b key).2.2)]) := by
  refine fnX (nt := 28) (F0 := [(0, .pointer (some ⟨Bb, 0, none⟩)), (1, .int .i64 key)]) Try.func65 rfl Try.ntmps65 rfl rfl (fun w0 hpre => ?_)
  refine c_know (fun w hw => own_len (i := 2) (T := tInt) hw rfl) (fun hlown_b_0 => ?_)
  obtain ⟨hcown_b_0, hlown_b_0⟩ := hlown_b_0
  refine c_know (fun w hw => own_len (i := 3) (T := tInt) hw rfl) (fun hlown_b_1 => ?_)
  obtain ⟨hcown_b_1, hlown_b_1⟩ := hlown_b_1
  have hfr := hy1.first
  have hse := hy1.second
  have hl1 := hy1.len1
  have hl2 := hy1.len2
  have he1 := List.length_erase_le (a := key) (l := b.young)
  have he2 := List.length_erase_le (a := key) (l := b.old)
  refine c_seq ?_
  refine c_region ?_
  refine o_pure (p_assign (v := .bool false) rfl) rfl rfl rfl ?_
  refine o_pure (p_assign (v := .slice none 0 0) rfl) rfl rfl rfl ?_
  refine o_nil ?_
  refine q_then ?_
  refine c_seq ?_
  refine c_seq ?_
  refine c_region ?_
  refine o_pure (p_move (v := .pointer (some ⟨Bb, 0, none⟩)) rfl) rfl rfl rfl ?_
  refine o_pure (p_nilCheck rfl) rfl rfl rfl ?_
  refine o_pure (p_fieldAddr (B := Bb) (j := 0) (j' := 2) rfl fo131_1 rfl) rfl rfl rfl ?_
  refine o_pure (p_move (v := .int .i64 key) rfl) rfl rfl rfl ?_
  refine o_pick (H' := [box Bb [.slice ab_0 b.young.length cb_0, .int .i64 b.first, .slice ab_1 b.old.length cb_1, .int .i64 b.second] 131, own tInt Sb_0 ab_0 cb_0 b.young, own tInt Sb_1 ab_1 cb_1 b.old, outer w0 [box Bb [.slice ab_0 b.young.length cb_0, .int .i64 b.first, .slice ab_1 b.old.length cb_1, .int .i64 b.second] 131, own tInt Sb_0 ab_0 cb_0 b.young, own tInt Sb_1 ab_1 cb_1 b.old]]) [1, 2, 3, 0] (by decide) rfl ?_
  refine o_callX (pre := [box Bb [.slice ab_0 b.young.length cb_0, .int .i64 b.first, .slice ab_1 b.old.length cb_1, .int .i64 b.second] 131, own tInt Sb_0 ab_0 cb_0 b.young, own tInt Sb_1 ab_1 cb_1 b.old]) (R := [outer w0 [box Bb [.slice ab_0 b.young.length cb_0, .int .i64 b.first, .slice ab_1 b.old.length cb_1, .int .i64 b.second] 131, own tInt Sb_0 ab_0 cb_0 b.young, own tInt Sb_1 ab_1 cb_1 b.old]]) rfl (leave_old_ok b Bb ab_0 cb_0 Sb_0 ab_1 cb_1 Sb_1 key) hf94 rfl (fun _ _ => trivial) rfl ?_
  rintro ⟨a1, c2, S3, a4, c5, S6⟩
  refine o_asH (H' := [box Bb [.slice a1 b.young.length c2, .int .i64 b.first, .slice a4 (b.old.erase key).length c5, .int .i64 b.second] 131, own tInt S3 a1 c2 b.young, own tInt S6 a4 c5 (b.old.erase key), outer w0 [box Bb [.slice ab_0 b.young.length cb_0, .int .i64 b.first, .slice ab_1 b.old.length cb_1, .int .i64 b.second] 131, own tInt Sb_0 ab_0 cb_0 b.young, own tInt Sb_1 ab_1 cb_1 b.old]]) rfl ?_
  refine o_pure (p_move (v := .bool (decide (key ∈ b.old))) rfl) rfl rfl rfl ?_
  rcases Bool.eq_false_or_eq_true ((decide (key ∈ b.old))) with hb9 | hb9
  · rw [hb9]
    have ho : key ∈ b.old := by simpa using hb9
    refine o_guard_no rfl 11 rfl rfl rfl rfl rfl ?_
    refine o_guard_no rfl 11 rfl rfl rfl rfl rfl ?_
    refine o_guard_no rfl 11 rfl rfl rfl rfl rfl ?_
    refine o_guard_no rfl 11 rfl rfl rfl rfl rfl ?_
    refine o_guard_no rfl 11 rfl rfl rfl rfl rfl ?_
    refine o_pure (p_pick_true (u := .bool true) rfl rfl) rfl rfl rfl ?_
    refine o_nil ?_
    refine q_then ?_
    refine c_true rfl ?_
    refine c_seq ?_
    refine c_region ?_
    refine o_pure (p_move (v := .pointer (some ⟨Bb, 0, none⟩)) rfl) rfl rfl rfl ?_
    refine o_pure (p_nilCheck rfl) rfl rfl rfl ?_
    refine o_pure (p_fieldAddr (B := Bb) (j := 0) (j' := 2) rfl fo131_1 rfl) rfl rfl rfl ?_
    refine o_pure (p_move (v := .int .i64 key) rfl) rfl rfl rfl ?_
    refine o_callX (pre := [box Bb [.slice a1 b.young.length c2, .int .i64 b.first, .slice a4 (b.old.erase key).length c5, .int .i64 b.second] 131, own tInt S3 a1 c2 b.young, own tInt S6 a4 c5 (b.old.erase key)]) (R := [outer w0 [box Bb [.slice ab_0 b.young.length cb_0, .int .i64 b.first, .slice ab_1 b.old.length cb_1, .int .i64 b.second] 131, own tInt Sb_0 ab_0 cb_0 b.young, own tInt Sb_1 ab_1 cb_1 b.old]]) rfl (enter_old_ok (⟨b.first, b.second, b.young, b.old.erase key⟩ : DHalls) Bb a1 c2 S3 a4 c5 S6 key (by first | omega | (dsimp only; omega))) hf95 rfl (fun _ _ => trivial) rfl ?_
    rintro ⟨a10, c11, S12, a13, c14, S15, a16, c17, S18⟩
    refine o_asH (H' := [box Bb [.slice a10 b.young.length c11, .int .i64 b.first, .slice a13 ((key :: (b.old.erase key)).take b.second.toNat).length c14, .int .i64 b.second] 131, own tInt S12 a10 c11 b.young, own tInt S15 a13 c14 ((key :: (b.old.erase key)).take b.second.toNat), own tInt S18 a16 c17 ((key :: (b.old.erase key)).drop b.second.toNat), outer w0 [box Bb [.slice ab_0 b.young.length cb_0, .int .i64 b.first, .slice ab_1 b.old.length cb_1, .int .i64 b.second] 131, own tInt Sb_0 ab_0 cb_0 b.young, own tInt Sb_1 ab_1 cb_1 b.old]]) rfl ?_
    refine o_pure (p_assign (v := .bool true) rfl) rfl rfl rfl ?_
    refine o_pure (p_assign (v := .slice a16 ((key :: (b.old.erase key)).drop b.second.toNat).length c17) rfl) rfl rfl rfl ?_
    refine o_nil ?_
    refine q_then ?_
    refine c_ret ?_
    refine q_then_ret ?_
    have hr0 : (b.young : List Int) = ((Seg.touch b key).1).young := by
      first | (rw [Seg.touch_old ho hy1.once]; done) | (rw [Seg.touch_young ho hyy]; done) | (rw [Seg.touch_young ho hyy, List.erase_of_not_mem ho]; done) | (rw [Seg.touch_new ho hyy]; done) | (rw [Seg.touch_new ho hyy, List.erase_of_not_mem hyy]; done) | (rw [Seg.touch_new ho hyy, List.erase_of_not_mem ho]; done)
    have hr1 : (b.first : Int) = ((Seg.touch b key).1).first := by
      first | (rw [Seg.touch_old ho hy1.once]; done) | (rw [Seg.touch_young ho hyy]; done) | (rw [Seg.touch_young ho hyy, List.erase_of_not_mem ho]; done) | (rw [Seg.touch_new ho hyy]; done) | (rw [Seg.touch_new ho hyy, List.erase_of_not_mem hyy]; done) | (rw [Seg.touch_new ho hyy, List.erase_of_not_mem ho]; done)
    have hr2 : ((key :: (b.old.erase key)).take b.second.toNat : List Int) = ((Seg.touch b key).1).old := by
      first | (rw [Seg.touch_old ho hy1.once]; done) | (rw [Seg.touch_young ho hyy]; done) | (rw [Seg.touch_young ho hyy, List.erase_of_not_mem ho]; done) | (rw [Seg.touch_new ho hyy]; done) | (rw [Seg.touch_new ho hyy, List.erase_of_not_mem hyy]; done) | (rw [Seg.touch_new ho hyy, List.erase_of_not_mem ho]; done)
    have hr3 : (b.second : Int) = ((Seg.touch b key).1).second := by
      first | (rw [Seg.touch_old ho hy1.once]; done) | (rw [Seg.touch_young ho hyy]; done) | (rw [Seg.touch_young ho hyy, List.erase_of_not_mem ho]; done) | (rw [Seg.touch_new ho hyy]; done) | (rw [Seg.touch_new ho hyy, List.erase_of_not_mem hyy]; done) | (rw [Seg.touch_new ho hyy, List.erase_of_not_mem ho]; done)
    have hr4 : (true : Bool) = ((Seg.touch b key).2.1) := by
      first | (rw [Seg.touch_old ho hy1.once]; done) | (rw [Seg.touch_young ho hyy]; done) | (rw [Seg.touch_young ho hyy, List.erase_of_not_mem ho]; done) | (rw [Seg.touch_new ho hyy]; done) | (rw [Seg.touch_new ho hyy, List.erase_of_not_mem hyy]; done) | (rw [Seg.touch_new ho hyy, List.erase_of_not_mem ho]; done)
    have hr5 : (((key :: (b.old.erase key)).drop b.second.toNat) : List Int) = ((Seg.touch b key).2.2) := by
      first | (rw [Seg.touch_old ho hy1.once]; done) | (rw [Seg.touch_young ho hyy]; done) | (rw [Seg.touch_young ho hyy, List.erase_of_not_mem ho]; done) | (rw [Seg.touch_new ho hyy]; done) | (rw [Seg.touch_new ho hyy, List.erase_of_not_mem hyy]; done) | (rw [Seg.touch_new ho hyy, List.erase_of_not_mem ho]; done)
    refine q_endX (p := (a10, c11, S12, a13, c14, S15, a16, c17, S18)) (rt2 rfl (r_tmp rfl) (r_tmp rfl)) ?_ (fun w hw => ?_)
    · exact (by have hcc := congr (congr (congr (congr (congr (congrArg (fun (y0 : List Int) (y1 : Int) (y2 : List Int) (y3 : Int) (y4 : Bool) (y5 : List Int) => (.tuple #[.bool y4, .slice a16 y5.length c17] : Value)) hr0) hr1) hr2) hr3) hr4) hr5; exact hcc)
    · have h2 := hw.pick (H' := [outer w0 [box Bb [.slice ab_0 b.young.length cb_0, .int .i64 b.first, .slice ab_1 b.old.length cb_1, .int .i64 b.second] 131, own tInt Sb_0 ab_0 cb_0 b.young, own tInt Sb_1 ab_1 cb_1 b.old], box Bb [.slice a10 b.young.length c11, .int .i64 b.first, .slice a13 ((key :: (b.old.erase key)).take b.second.toNat).length c14, .int .i64 b.second] 131, own tInt S12 a10 c11 b.young, own tInt S15 a13 c14 ((key :: (b.old.erase key)).take b.second.toNat), own tInt S18 a16 c17 ((key :: (b.old.erase key)).drop b.second.toNat)]) [4, 0, 1, 2, 3] (by decide) rfl
      exact Eq.mp (congrArg (fun z => HeapIs w0 ((outer w0 [box Bb [.slice ab_0 b.young.length cb_0, .int .i64 b.first, .slice ab_1 b.old.length cb_1, .int .i64 b.second] 131, own tInt Sb_0 ab_0 cb_0 b.young, own tInt Sb_1 ab_1 cb_1 b.old]) :: z) w) ((by have hcc := congr (congr (congr (congr (congr (congrArg (fun (y0 : List Int) (y1 : Int) (y2 : List Int) (y3 : Int) (y4 : Bool) (y5 : List Int) => ([box Bb [.slice a10 y0.length c11, .int .i64 y1, .slice a13 y2.length c14, .int .i64 y3] 131, own tInt S12 a10 c11 y0, own tInt S15 a13 c14 y2, own tInt S18 a16 c17 y5] : List Ent)) hr0) hr1) hr2) hr3) hr4) hr5; exact hcc))) h2
  · rw [hb9]
    have ho : key ∉ b.old := by simpa using hb9
    refine o_unguard 11 rfl rfl ?_
    refine o_pure (p_move (v := .pointer (some ⟨Bb, 0, none⟩)) rfl) rfl rfl rfl ?_
    refine o_unguard 11 rfl rfl ?_
    refine o_pure (p_nilCheck rfl) rfl rfl rfl ?_
    refine o_unguard 11 rfl rfl ?_
    refine o_pure (p_fieldAddr (B := Bb) (j := 0) (j' := 0) rfl fo131_0 rfl) rfl rfl rfl ?_
    refine o_unguard 11 rfl rfl ?_
    refine o_pure (p_move (v := .int .i64 key) rfl) rfl rfl rfl ?_
    refine o_unguard 11 rfl rfl ?_
    refine o_callX (pre := [box Bb [.slice a1 b.young.length c2, .int .i64 b.first, .slice a4 (b.old.erase key).length c5, .int .i64 b.second] 131, own tInt S3 a1 c2 b.young, own tInt S6 a4 c5 (b.old.erase key)]) (R := [outer w0 [box Bb [.slice ab_0 b.young.length cb_0, .int .i64 b.first, .slice ab_1 b.old.length cb_1, .int .i64 b.second] 131, own tInt Sb_0 ab_0 cb_0 b.young, own tInt Sb_1 ab_1 cb_1 b.old]]) rfl (leave_young_ok (⟨b.first, b.second, b.young, b.old.erase key⟩ : DHalls) Bb a1 c2 S3 a4 c5 S6 key) hf94 rfl (fun _ _ => trivial) rfl ?_
    rintro ⟨a22, c23, S24, a25, c26, S27⟩
    refine o_asH (H' := [box Bb [.slice a22 (b.young.erase key).length c23, .int .i64 b.first, .slice a25 (b.old.erase key).length c26, .int .i64 b.second] 131, own tInt S24 a22 c23 (b.young.erase key), own tInt S27 a25 c26 (b.old.erase key), outer w0 [box Bb [.slice ab_0 b.young.length cb_0, .int .i64 b.first, .slice ab_1 b.old.length cb_1, .int .i64 b.second] 131, own tInt Sb_0 ab_0 cb_0 b.young, own tInt Sb_1 ab_1 cb_1 b.old]]) rfl ?_
    refine o_pure (p_pick_false (v := .bool (decide (key ∈ b.young))) rfl rfl) rfl rfl rfl ?_
    refine o_nil ?_
    refine q_then ?_
    refine c_cond (b := (decide (key ∈ b.young))) rfl (fun hc30 => ?_) (fun hc30 => ?_)
    · simp only [decide_eq_true_eq] at hc30
      have hyy : key ∈ b.young := by simpa using hc30
      refine c_seq ?_
      refine c_region ?_
      refine o_pure (p_move (v := .pointer (some ⟨Bb, 0, none⟩)) rfl) rfl rfl rfl ?_
      refine o_pure (p_nilCheck rfl) rfl rfl rfl ?_
      refine o_pure (p_fieldAddr (B := Bb) (j := 0) (j' := 2) rfl fo131_1 rfl) rfl rfl rfl ?_
      refine o_pure (p_move (v := .int .i64 key) rfl) rfl rfl rfl ?_
      refine o_callX (pre := [box Bb [.slice a22 (b.young.erase key).length c23, .int .i64 b.first, .slice a25 (b.old.erase key).length c26, .int .i64 b.second] 131, own tInt S24 a22 c23 (b.young.erase key), own tInt S27 a25 c26 (b.old.erase key)]) (R := [outer w0 [box Bb [.slice ab_0 b.young.length cb_0, .int .i64 b.first, .slice ab_1 b.old.length cb_1, .int .i64 b.second] 131, own tInt Sb_0 ab_0 cb_0 b.young, own tInt Sb_1 ab_1 cb_1 b.old]]) rfl (enter_old_ok (⟨b.first, b.second, b.young.erase key, (b.old.erase key)⟩ : DHalls) Bb a22 c23 S24 a25 c26 S27 key (by first | omega | (dsimp only; omega))) hf95 rfl (fun _ _ => trivial) rfl ?_
      rintro ⟨a31, c32, S33, a34, c35, S36, a37, c38, S39⟩
      refine o_asH (H' := [box Bb [.slice a31 (b.young.erase key).length c32, .int .i64 b.first, .slice a34 ((key :: (b.old.erase key)).take b.second.toNat).length c35, .int .i64 b.second] 131, own tInt S33 a31 c32 (b.young.erase key), own tInt S36 a34 c35 ((key :: (b.old.erase key)).take b.second.toNat), own tInt S39 a37 c38 ((key :: (b.old.erase key)).drop b.second.toNat), outer w0 [box Bb [.slice ab_0 b.young.length cb_0, .int .i64 b.first, .slice ab_1 b.old.length cb_1, .int .i64 b.second] 131, own tInt Sb_0 ab_0 cb_0 b.young, own tInt Sb_1 ab_1 cb_1 b.old]]) rfl ?_
      refine o_pure (p_assign (v := .bool true) rfl) rfl rfl rfl ?_
      refine o_pure (p_assign (v := .slice a37 ((key :: (b.old.erase key)).drop b.second.toNat).length c38) rfl) rfl rfl rfl ?_
      refine o_nil ?_
      refine q_then ?_
      refine c_ret ?_
      refine q_then_ret ?_
      have hr0 : ((b.young.erase key) : List Int) = ((Seg.touch b key).1).young := by
        first | (rw [Seg.touch_old ho hy1.once]; done) | (rw [Seg.touch_young ho hyy]; done) | (rw [Seg.touch_young ho hyy, List.erase_of_not_mem ho]; done) | (rw [Seg.touch_new ho hyy]; done) | (rw [Seg.touch_new ho hyy, List.erase_of_not_mem hyy]; done) | (rw [Seg.touch_new ho hyy, List.erase_of_not_mem ho]; done)
      have hr1 : (b.first : Int) = ((Seg.touch b key).1).first := by
        first | (rw [Seg.touch_old ho hy1.once]; done) | (rw [Seg.touch_young ho hyy]; done) | (rw [Seg.touch_young ho hyy, List.erase_of_not_mem ho]; done) | (rw [Seg.touch_new ho hyy]; done) | (rw [Seg.touch_new ho hyy, List.erase_of_not_mem hyy]; done) | (rw [Seg.touch_new ho hyy, List.erase_of_not_mem ho]; done)
      have hr2 : ((key :: (b.old.erase key)).take b.second.toNat : List Int) = ((Seg.touch b key).1).old := by
        first | (rw [Seg.touch_old ho hy1.once]; done) | (rw [Seg.touch_young ho hyy]; done) | (rw [Seg.touch_young ho hyy, List.erase_of_not_mem ho]; done) | (rw [Seg.touch_new ho hyy]; done) | (rw [Seg.touch_new ho hyy, List.erase_of_not_mem hyy]; done) | (rw [Seg.touch_new ho hyy, List.erase_of_not_mem ho]; done)
      have hr3 : (b.second : Int) = ((Seg.touch b key).1).second := by
        first | (rw [Seg.touch_old ho hy1.once]; done) | (rw [Seg.touch_young ho hyy]; done) | (rw [Seg.touch_young ho hyy, List.erase_of_not_mem ho]; done) | (rw [Seg.touch_new ho hyy]; done) | (rw [Seg.touch_new ho hyy, List.erase_of_not_mem hyy]; done) | (rw [Seg.touch_new ho hyy, List.erase_of_not_mem ho]; done)
      have hr4 : (true : Bool) = ((Seg.touch b key).2.1) := by
        first | (rw [Seg.touch_old ho hy1.once]; done) | (rw [Seg.touch_young ho hyy]; done) | (rw [Seg.touch_young ho hyy, List.erase_of_not_mem ho]; done) | (rw [Seg.touch_new ho hyy]; done) | (rw [Seg.touch_new ho hyy, List.erase_of_not_mem hyy]; done) | (rw [Seg.touch_new ho hyy, List.erase_of_not_mem ho]; done)
      have hr5 : (((key :: (b.old.erase key)).drop b.second.toNat) : List Int) = ((Seg.touch b key).2.2) := by
        first | (rw [Seg.touch_old ho hy1.once]; done) | (rw [Seg.touch_young ho hyy]; done) | (rw [Seg.touch_young ho hyy, List.erase_of_not_mem ho]; done) | (rw [Seg.touch_new ho hyy]; done) | (rw [Seg.touch_new ho hyy, List.erase_of_not_mem hyy]; done) | (rw [Seg.touch_new ho hyy, List.erase_of_not_mem ho]; done)
      refine q_endX (p := (a31, c32, S33, a34, c35, S36, a37, c38, S39)) (rt2 rfl (r_tmp rfl) (r_tmp rfl)) ?_ (fun w hw => ?_)
      · exact (by have hcc := congr (congr (congr (congr (congr (congrArg (fun (y0 : List Int) (y1 : Int) (y2 : List Int) (y3 : Int) (y4 : Bool) (y5 : List Int) => (.tuple #[.bool y4, .slice a37 y5.length c38] : Value)) hr0) hr1) hr2) hr3) hr4) hr5; exact hcc)
      · have h2 := hw.pick (H' := [outer w0 [box Bb [.slice ab_0 b.young.length cb_0, .int .i64 b.first, .slice ab_1 b.old.length cb_1, .int .i64 b.second] 131, own tInt Sb_0 ab_0 cb_0 b.young, own tInt Sb_1 ab_1 cb_1 b.old], box Bb [.slice a31 (b.young.erase key).length c32, .int .i64 b.first, .slice a34 ((key :: (b.old.erase key)).take b.second.toNat).length c35, .int .i64 b.second] 131, own tInt S33 a31 c32 (b.young.erase key), own tInt S36 a34 c35 ((key :: (b.old.erase key)).take b.second.toNat), own tInt S39 a37 c38 ((key :: (b.old.erase key)).drop b.second.toNat)]) [4, 0, 1, 2, 3] (by decide) rfl
        exact Eq.mp (congrArg (fun z => HeapIs w0 ((outer w0 [box Bb [.slice ab_0 b.young.length cb_0, .int .i64 b.first, .slice ab_1 b.old.length cb_1, .int .i64 b.second] 131, own tInt Sb_0 ab_0 cb_0 b.young, own tInt Sb_1 ab_1 cb_1 b.old]) :: z) w) ((by have hcc := congr (congr (congr (congr (congr (congrArg (fun (y0 : List Int) (y1 : Int) (y2 : List Int) (y3 : Int) (y4 : Bool) (y5 : List Int) => ([box Bb [.slice a31 y0.length c32, .int .i64 y1, .slice a34 y2.length c35, .int .i64 y3] 131, own tInt S33 a31 c32 y0, own tInt S36 a34 c35 y2, own tInt S39 a37 c38 y5] : List Ent)) hr0) hr1) hr2) hr3) hr4) hr5; exact hcc))) h2
    · simp only [decide_eq_false_iff_not] at hc30
      have hyy : key ∉ b.young := by simpa using hc30
      refine c_skip ?_
      refine q_then ?_
      refine c_seq ?_
      refine c_region ?_
      refine o_pure (p_move (v := .pointer (some ⟨Bb, 0, none⟩)) rfl) rfl rfl rfl ?_
      refine o_pure (p_nilCheck rfl) rfl rfl rfl ?_
      refine o_pure (p_fieldAddr (B := Bb) (j := 0) (j' := 0) rfl fo131_0 rfl) rfl rfl rfl ?_
      refine o_pure (p_move (v := .int .i64 key) rfl) rfl rfl rfl ?_
      refine o_callX (pre := [box Bb [.slice a22 (b.young.erase key).length c23, .int .i64 b.first, .slice a25 (b.old.erase key).length c26, .int .i64 b.second] 131, own tInt S24 a22 c23 (b.young.erase key), own tInt S27 a25 c26 (b.old.erase key)]) (R := [outer w0 [box Bb [.slice ab_0 b.young.length cb_0, .int .i64 b.first, .slice ab_1 b.old.length cb_1, .int .i64 b.second] 131, own tInt Sb_0 ab_0 cb_0 b.young, own tInt Sb_1 ab_1 cb_1 b.old]]) rfl (enter_young_ok (⟨b.first, b.second, b.young.erase key, (b.old.erase key)⟩ : DHalls) Bb a22 c23 S24 a25 c26 S27 key (by first | omega | (dsimp only; omega))) hf95 rfl (fun _ _ => trivial) rfl ?_
      rintro ⟨a43, c44, S45, a46, c47, S48, a49, c50, S51⟩
      refine o_asH (H' := [box Bb [.slice a43 ((key :: (b.young.erase key)).take b.first.toNat).length c44, .int .i64 b.first, .slice a46 (b.old.erase key).length c47, .int .i64 b.second] 131, own tInt S45 a43 c44 ((key :: (b.young.erase key)).take b.first.toNat), own tInt S48 a46 c47 (b.old.erase key), own tInt S51 a49 c50 ((key :: (b.young.erase key)).drop b.first.toNat), outer w0 [box Bb [.slice ab_0 b.young.length cb_0, .int .i64 b.first, .slice ab_1 b.old.length cb_1, .int .i64 b.second] 131, own tInt Sb_0 ab_0 cb_0 b.young, own tInt Sb_1 ab_1 cb_1 b.old]]) rfl ?_
      refine o_pure (p_assign (v := .bool false) rfl) rfl rfl rfl ?_
      refine o_pure (p_assign (v := .slice a49 ((key :: (b.young.erase key)).drop b.first.toNat).length c50) rfl) rfl rfl rfl ?_
      refine o_nil ?_
      refine q_then ?_
      refine c_ret ?_
      have hr0 : ((key :: (b.young.erase key)).take b.first.toNat : List Int) = ((Seg.touch b key).1).young := by
        first | (rw [Seg.touch_old ho hy1.once]; done) | (rw [Seg.touch_young ho hyy]; done) | (rw [Seg.touch_young ho hyy, List.erase_of_not_mem ho]; done) | (rw [Seg.touch_new ho hyy]; done) | (rw [Seg.touch_new ho hyy, List.erase_of_not_mem hyy]; done) | (rw [Seg.touch_new ho hyy, List.erase_of_not_mem ho]; done)
      have hr1 : (b.first : Int) = ((Seg.touch b key).1).first := by
        first | (rw [Seg.touch_old ho hy1.once]; done) | (rw [Seg.touch_young ho hyy]; done) | (rw [Seg.touch_young ho hyy, List.erase_of_not_mem ho]; done) | (rw [Seg.touch_new ho hyy]; done) | (rw [Seg.touch_new ho hyy, List.erase_of_not_mem hyy]; done) | (rw [Seg.touch_new ho hyy, List.erase_of_not_mem ho]; done)
      have hr2 : ((b.old.erase key) : List Int) = ((Seg.touch b key).1).old := by
        first | (rw [Seg.touch_old ho hy1.once]; done) | (rw [Seg.touch_young ho hyy]; done) | (rw [Seg.touch_young ho hyy, List.erase_of_not_mem ho]; done) | (rw [Seg.touch_new ho hyy]; done) | (rw [Seg.touch_new ho hyy, List.erase_of_not_mem hyy]; done) | (rw [Seg.touch_new ho hyy, List.erase_of_not_mem ho]; done)
      have hr3 : (b.second : Int) = ((Seg.touch b key).1).second := by
        first | (rw [Seg.touch_old ho hy1.once]; done) | (rw [Seg.touch_young ho hyy]; done) | (rw [Seg.touch_young ho hyy, List.erase_of_not_mem ho]; done) | (rw [Seg.touch_new ho hyy]; done) | (rw [Seg.touch_new ho hyy, List.erase_of_not_mem hyy]; done) | (rw [Seg.touch_new ho hyy, List.erase_of_not_mem ho]; done)
      have hr4 : (false : Bool) = ((Seg.touch b key).2.1) := by
        first | (rw [Seg.touch_old ho hy1.once]; done) | (rw [Seg.touch_young ho hyy]; done) | (rw [Seg.touch_young ho hyy, List.erase_of_not_mem ho]; done) | (rw [Seg.touch_new ho hyy]; done) | (rw [Seg.touch_new ho hyy, List.erase_of_not_mem hyy]; done) | (rw [Seg.touch_new ho hyy, List.erase_of_not_mem ho]; done)
      have hr5 : (((key :: (b.young.erase key)).drop b.first.toNat) : List Int) = ((Seg.touch b key).2.2) := by
        first | (rw [Seg.touch_old ho hy1.once]; done) | (rw [Seg.touch_young ho hyy]; done) | (rw [Seg.touch_young ho hyy, List.erase_of_not_mem ho]; done) | (rw [Seg.touch_new ho hyy]; done) | (rw [Seg.touch_new ho hyy, List.erase_of_not_mem hyy]; done) | (rw [Seg.touch_new ho hyy, List.erase_of_not_mem ho]; done)
      refine q_endX (p := (a43, c44, S45, a46, c47, S48, a49, c50, S51)) (rt2 rfl (r_tmp rfl) (r_tmp rfl)) ?_ (fun w hw => ?_)
      · exact (by have hcc := congr (congr (congr (congr (congr (congrArg (fun (y0 : List Int) (y1 : Int) (y2 : List Int) (y3 : Int) (y4 : Bool) (y5 : List Int) => (.tuple #[.bool y4, .slice a49 y5.length c50] : Value)) hr0) hr1) hr2) hr3) hr4) hr5; exact hcc)
      · have h2 := hw.pick (H' := [outer w0 [box Bb [.slice ab_0 b.young.length cb_0, .int .i64 b.first, .slice ab_1 b.old.length cb_1, .int .i64 b.second] 131, own tInt Sb_0 ab_0 cb_0 b.young, own tInt Sb_1 ab_1 cb_1 b.old], box Bb [.slice a43 ((key :: (b.young.erase key)).take b.first.toNat).length c44, .int .i64 b.first, .slice a46 (b.old.erase key).length c47, .int .i64 b.second] 131, own tInt S45 a43 c44 ((key :: (b.young.erase key)).take b.first.toNat), own tInt S48 a46 c47 (b.old.erase key), own tInt S51 a49 c50 ((key :: (b.young.erase key)).drop b.first.toNat)]) [4, 0, 1, 2, 3] (by decide) rfl
        exact Eq.mp (congrArg (fun z => HeapIs w0 ((outer w0 [box Bb [.slice ab_0 b.young.length cb_0, .int .i64 b.first, .slice ab_1 b.old.length cb_1, .int .i64 b.second] 131, own tInt Sb_0 ab_0 cb_0 b.young, own tInt Sb_1 ab_1 cb_1 b.old]) :: z) w) ((by have hcc := congr (congr (congr (congr (congr (congrArg (fun (y0 : List Int) (y1 : Int) (y2 : List Int) (y3 : Int) (y4 : Bool) (y5 : List Int) => ([box Bb [.slice a43 y0.length c44, .int .i64 y1, .slice a46 y2.length c47, .int .i64 y3] 131, own tInt S45 a43 c44 y0, own tInt S48 a46 c47 y2, own tInt S51 a49 c50 y5] : List Ent)) hr0) hr1) hr2) hr3) hr4) hr5; exact hcc))) h2
end Go.Proofs.Ytkndekkacimekaa
