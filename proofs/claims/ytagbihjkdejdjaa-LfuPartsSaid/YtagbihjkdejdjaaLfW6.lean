/- The walks, printed by a program from the translation and a specification. -/
import Derived.Test.YtagbihjkdejdjaaLfF
import Derived.Test.YtagbihjkdejdjaaLfLaw5
import Derived.Test.YtagbihjkdejdjaaLfW5
import Derived.Test.YtagbihjkdejdjaaLfW3
import Derived.Test.YtagbihjkdejdjaaLfW2b
namespace Go.Proofs.Ytagbihjkdejdjaa
open Go.Sx Go.RowKit
set_option maxHeartbeats 8000000 in
set_option maxRecDepth 100000 in
theorem faccess_ok (u : DUses) (au_0 : Option Addr) (cu_0 : Nat) (key : Int) : FnM Try.prog 15 [.agg #[.int .i64 u.room, .slice au_0 u.list.length cu_0], .int .i64 key] (fun w => Rd tUse w au_0 cu_0 u.list) (Option Addr × Nat) (fun p => .tuple #[.agg #[.int .i64 (((Lfu.access u key).1).room), .slice p.1 (((Lfu.access u key).1).list).length p.2], .bool ((Lfu.access u key).2.1), .int .i64 ((Lfu.access u key).2.2), .int .i64 (Lfu.accessErr u key)]) (fun p S w => SlO tUse S w p.1 p.2 (((Lfu.access u key).1).list)) := by
  refine fnM (nt := 39) (F0 := [(0, .agg #[.int .i64 u.room, .slice au_0 u.list.length cu_0]), (1, .int .i64 key)]) Try.func15 rfl Try.ntmps15 rfl rfl (fun w0 hpre => ?_)
  have hu_0 := hpre
  have hlhu_0 := hu_0.2.1
  refine c_seq ?_
  refine c_region ?_
  refine o_box (v := .agg #[.int .i64 u.room, .slice au_0 u.list.length cu_0]) rfl rfl (fun B1 => ?_)
  refine o_alloc ze24 rfl (fun B2 => ?_)
  refine o_pure (p_assign (v := .bool false) rfl) rfl rfl rfl ?_
  refine o_pure (p_assign (v := .int .i64 0) rfl) rfl rfl rfl ?_
  refine o_pure (p_assign (v := .int .i64 0) rfl) rfl rfl rfl ?_
  refine o_nil ?_
  refine q_then ?_
  refine c_seq ?_
  refine c_region ?_
  refine o_pure (p_load_agg (i := 1) (vs := [.int .i64 u.room, .slice au_0 u.list.length cu_0]) rfl rfl sh24 rfl rfl) rfl rfl rfl ?_
  refine o_call0 (v := .int .i64 (Lfu.check u)) rfl (fcheck_ok u au_0 cu_0) hf25 (fun w hw => (rd_base (i := 2) rfl hu_0) w hw) rfl ?_
  refine o_pure (p_assign (v := .int .i64 (Lfu.check u)) rfl) rfl rfl rfl ?_
  refine o_nil ?_
  refine q_then ?_
  refine c_seq ?_
  refine c_seq ?_
  refine c_region ?_
  refine o_pure (p_move (v := .int .i64 (Lfu.check u)) rfl) rfl rfl rfl ?_
  refine o_pure (p_eq (p := (Lfu.check u)) (q := 0) rfl rfl) rfl rfl rfl ?_
  refine o_pure (p_move (v := .bool ((Lfu.check u) == 0)) rfl) rfl rfl rfl ?_
  refine o_and (p := 20) 4 (!(Lru.okKey key)) ?_ ?_ ?_
  · intro hb3 hk
    simp only [beq_iff_eq] at hb3
    refine o_unguard 16 rfl rfl ?_
    refine o_pure (p_move (v := .int .i64 key) rfl) rfl rfl rfl ?_
    refine o_unguard 16 rfl rfl ?_
    refine o_call0 (v := .bool (Lru.okKey key)) rfl (key_ok key) hf49 (fun _ _ => trivial) rfl ?_
    refine o_unguard 16 rfl rfl ?_
    refine o_pure (p_not (b := (Lru.okKey key)) rfl) rfl rfl rfl ?_
    refine o_pure (p_pick_true (u := .bool (!(Lru.okKey key))) rfl rfl) rfl rfl rfl ?_
    exact o_sub (Sub.cons rfl (Sub.skip rfl (Sub.skip rfl (Sub.skip rfl (Sub.skip rfl (Sub.skip rfl (Sub.refl _))))))) hk
  · intro hb3 hk
    refine o_guard_no rfl 16 rfl rfl rfl rfl rfl ?_
    refine o_guard_no rfl 16 rfl rfl rfl rfl rfl ?_
    refine o_guard_no rfl 16 rfl rfl rfl rfl rfl ?_
    refine o_pure (p_pick_false (v := .bool false) rfl rfl) rfl rfl rfl ?_
    exact o_sub (Sub.cons rfl (Sub.skip rfl (Sub.skip rfl (Sub.skip rfl (Sub.skip rfl (Sub.skip rfl (Sub.refl _))))))) hk
  refine o_nil ?_
  refine q_then ?_
  refine c_cond (b := (((Lfu.check u) == 0) && (!(Lru.okKey key)))) rfl (fun hc4 => ?_) (fun hc4 => ?_)
  · simp only [Bool.and_eq_true, beq_iff_eq, Bool.not_eq_true'] at hc4
    refine c_region ?_
    refine o_pure (p_assign (v := .int .i64 3) rfl) rfl rfl rfl ?_
    refine o_nil ?_
    refine q_then ?_
    refine c_seq ?_
    refine c_seq ?_
    refine c_region ?_
    refine o_pure (p_move (v := .int .i64 3) rfl) rfl rfl rfl ?_
    refine o_pure (p_ne (p := 3) (q := 0) rfl rfl) rfl rfl rfl ?_
    refine o_nil ?_
    refine q_then ?_
    refine c_true rfl ?_
    refine c_seq ?_
    refine c_region ?_
    refine o_pure (p_build (cells := [.int .i64 0, .slice none 0 0]) fp24 ze24 rfl rfl) rfl rfl rfl ?_
    refine o_pure (p_move (v := .int .i64 3) rfl) rfl rfl rfl ?_
    refine o_storeN (i := 0) (vs := [.int .i64 0, .slice none 0 0]) (cs' := [.int .i64 0, .slice none 0 0]) rfl rfl rfl sz24 rfl rfl rfl rfl ?_
    refine o_pure (p_assign (v := .bool false) rfl) rfl rfl rfl ?_
    refine o_pure (p_assign (v := .int .i64 0) rfl) rfl rfl rfl ?_
    refine o_pure (p_assign (v := .int .i64 3) rfl) rfl rfl rfl ?_
    refine o_nil ?_
    refine q_then ?_
    refine c_ret ?_
    refine q_then_ret ?_
    obtain ⟨ha, hae⟩ : _ ∧ _ := by first | exact Lfu.acc1 (c := u) (key := key) (by assumption) | exact Lfu.acc2 (c := u) (key := key) (by assumption) | exact Lfu.acc3 (c := u) (key := key) (by assumption) (by assumption)
    have hr0 : (0 : Int) = ((Lfu.access u key).1).room := by
      simp only [ha, hae, Lfu.zero]
    have hr1 : ([] : List DUse) = ((Lfu.access u key).1).list := by
      simp only [ha, hae, Lfu.zero]
    have hr2 : (false : Bool) = ((Lfu.access u key).2.1) := by
      simp only [ha, hae, Lfu.zero]
    have hr3 : (0 : Int) = ((Lfu.access u key).2.2) := by
      simp only [ha, hae, Lfu.zero]
    have hr4 : (3 : Int) = (Lfu.accessErr u key) := by
      simp only [ha, hae, Lfu.zero]
    refine q_endM (p := (none, 0)) (fun _ => False) (rt4 rfl (r_cell (i := 0) rfl rfl sh24 rfl) (r_tmp rfl) (r_tmp rfl) (r_tmp rfl)) (i := 2) rfl ?_ ?_ ?_
    · exact (by have hcc := congr (congr (congr (congr (congrArg (fun (y0 : Int) (y1 : List DUse) (y2 : Bool) (y3 : Int) (y4 : Int) => (.tuple #[.agg #[.int .i64 y0, .slice none y1.length 0], .bool y2, .int .i64 y3, .int .i64 y4] : Value)) hr0) hr1) hr2) hr3) hr4; exact hcc)
    · intro w hw b hb; exact hb.elim
    · intro w hw; exact Eq.mp (congrArg (fun y => SlO tUse _ w none 0 y) hr1) (SlO.nil tUse w)
  · simp only [Bool.and_eq_false_iff, beq_eq_false_iff_ne, ne_eq, Bool.not_eq_false'] at hc4
    refine c_skip ?_
    refine q_then ?_
    refine c_seq ?_
    refine c_seq ?_
    refine c_region ?_
    refine o_pure (p_move (v := .int .i64 (Lfu.check u)) rfl) rfl rfl rfl ?_
    refine o_pure (p_ne (p := (Lfu.check u)) (q := 0) rfl rfl) rfl rfl rfl ?_
    refine o_nil ?_
    refine q_then ?_
    refine c_cond (b := ((Lfu.check u) != 0)) rfl (fun hc5 => ?_) (fun hc5 => ?_)
    · simp only [bne_iff_ne, ne_eq] at hc5
      refine c_seq ?_
      refine c_region ?_
      refine o_pure (p_build (cells := [.int .i64 0, .slice none 0 0]) fp24 ze24 rfl rfl) rfl rfl rfl ?_
      refine o_pure (p_move (v := .int .i64 (Lfu.check u)) rfl) rfl rfl rfl ?_
      refine o_storeN (i := 0) (vs := [.int .i64 0, .slice none 0 0]) (cs' := [.int .i64 0, .slice none 0 0]) rfl rfl rfl sz24 rfl rfl rfl rfl ?_
      refine o_pure (p_assign (v := .bool false) rfl) rfl rfl rfl ?_
      refine o_pure (p_assign (v := .int .i64 0) rfl) rfl rfl rfl ?_
      refine o_pure (p_assign (v := .int .i64 (Lfu.check u)) rfl) rfl rfl rfl ?_
      refine o_nil ?_
      refine q_then ?_
      refine c_ret ?_
      refine q_then_ret ?_
      obtain ⟨ha, hae⟩ : _ ∧ _ := by first | exact Lfu.acc1 (c := u) (key := key) (by assumption) | exact Lfu.acc2 (c := u) (key := key) (by assumption) | exact Lfu.acc3 (c := u) (key := key) (by assumption) (by assumption)
      have hr0 : (0 : Int) = ((Lfu.access u key).1).room := by
        simp only [ha, hae, Lfu.zero]
      have hr1 : ([] : List DUse) = ((Lfu.access u key).1).list := by
        simp only [ha, hae, Lfu.zero]
      have hr2 : (false : Bool) = ((Lfu.access u key).2.1) := by
        simp only [ha, hae, Lfu.zero]
      have hr3 : (0 : Int) = ((Lfu.access u key).2.2) := by
        simp only [ha, hae, Lfu.zero]
      have hr4 : ((Lfu.check u) : Int) = (Lfu.accessErr u key) := by
        simp only [ha, hae, Lfu.zero]
      refine q_endM (p := (none, 0)) (fun _ => False) (rt4 rfl (r_cell (i := 0) rfl rfl sh24 rfl) (r_tmp rfl) (r_tmp rfl) (r_tmp rfl)) (i := 2) rfl ?_ ?_ ?_
      · exact (by have hcc := congr (congr (congr (congr (congrArg (fun (y0 : Int) (y1 : List DUse) (y2 : Bool) (y3 : Int) (y4 : Int) => (.tuple #[.agg #[.int .i64 y0, .slice none y1.length 0], .bool y2, .int .i64 y3, .int .i64 y4] : Value)) hr0) hr1) hr2) hr3) hr4; exact hcc)
      · intro w hw b hb; exact hb.elim
      · intro w hw; exact Eq.mp (congrArg (fun y => SlO tUse _ w none 0 y) hr1) (SlO.nil tUse w)
    · simp only [bne_eq_false_iff_eq] at hc5
      have hok := Lfu.ok_of hc5
      have hroom := hok.room
      have hlen := hok.len
      refine c_skip ?_
      refine q_then ?_
      refine c_seq ?_
      refine c_region ?_
      refine o_pure (p_load_agg (i := 1) (vs := [.int .i64 u.room, .slice au_0 u.list.length cu_0]) rfl rfl sh24 rfl rfl) rfl rfl rfl ?_
      refine o_callX (pre := []) (R := [box B2 [.int .i64 0, .slice none 0 0] 24, box B1 [.int .i64 u.room, .slice au_0 u.list.length cu_0] 24, base w0]) rfl (fowned_ok u au_0 cu_0 (by omega)) hf50 rfl (fun w hw => (rdX (i := 2) (js := []) rfl (by decide) rfl (fun _ hA => slR_base hu_0 hA)) w hw) rfl ?_
      rintro ⟨B6, a7, c8, S9⟩
      refine o_asH (H' := [box B6 [.int .i64 u.room, .slice a7 u.list.length c8] 90, own tUse S9 a7 c8 u.list, box B2 [.int .i64 0, .slice none 0 0] 24, box B1 [.int .i64 u.room, .slice au_0 u.list.length cu_0] 24, base w0]) rfl ?_
      refine o_pure (p_assign (v := .pointer (some ⟨B6, 0, none⟩)) rfl) rfl rfl rfl ?_
      refine o_nil ?_
      refine q_then ?_
      refine c_seq ?_
      refine c_region ?_
      refine o_pure (p_move (v := .pointer (some ⟨B6, 0, none⟩)) rfl) rfl rfl rfl ?_
      refine o_pure (p_move (v := .int .i64 key) rfl) rfl rfl rfl ?_
      refine o_callX (pre := [box B6 [.int .i64 u.room, .slice a7 u.list.length c8] 90, own tUse S9 a7 c8 u.list]) (R := [box B2 [.int .i64 0, .slice none 0 0] 24, box B1 [.int .i64 u.room, .slice au_0 u.list.length cu_0] 24, base w0]) rfl (ftouch_ok u B6 a7 c8 S9 key (by first | assumption | exact hI.ok | omega)) hf51 rfl (fun _ _ => trivial) rfl ?_
      rintro ⟨a11, c12, S13⟩
      refine o_asH (H' := [box B6 [.int .i64 (((Lfu.touch u key).1).room), .slice a11 (((Lfu.touch u key).1).list).length c12] 90, own tUse S13 a11 c12 (((Lfu.touch u key).1).list), box B2 [.int .i64 0, .slice none 0 0] 24, box B1 [.int .i64 u.room, .slice au_0 u.list.length cu_0] 24, base w0]) rfl ?_
      refine o_pure (p_move (v := .tuple #[.bool ((Lfu.touch u key).2.1), .int .i64 ((Lfu.touch u key).2.2)]) rfl) rfl rfl rfl ?_
      refine o_pure (p_extract (vs := [.bool ((Lfu.touch u key).2.1), .int .i64 ((Lfu.touch u key).2.2)]) (v := .bool ((Lfu.touch u key).2.1)) rfl rfl) rfl rfl rfl ?_
      refine o_pure (p_extract (vs := [.bool ((Lfu.touch u key).2.1), .int .i64 ((Lfu.touch u key).2.2)]) (v := .int .i64 ((Lfu.touch u key).2.2)) rfl rfl) rfl rfl rfl ?_
      refine o_pure (p_assign (v := .bool ((Lfu.touch u key).2.1)) rfl) rfl rfl rfl ?_
      refine o_pure (p_assign (v := .int .i64 ((Lfu.touch u key).2.2)) rfl) rfl rfl rfl ?_
      refine o_nil ?_
      refine q_then ?_
      refine c_seq ?_
      refine c_region ?_
      refine o_pure (p_move (v := .pointer (some ⟨B6, 0, none⟩)) rfl) rfl rfl rfl ?_
      refine o_pure (p_nilCheck rfl) rfl rfl rfl ?_
      refine o_pure (p_fieldAddr (B := B6) (j := 0) (j' := 0) rfl fo90_0 rfl) rfl rfl rfl ?_
      refine o_pure (p_load_agg (i := 0) (vs := [.int .i64 (((Lfu.touch u key).1).room), .slice a11 (((Lfu.touch u key).1).list).length c12]) rfl rfl sh24 rfl rfl) rfl rfl rfl ?_
      refine o_pure (p_move (v := .bool ((Lfu.touch u key).2.1)) rfl) rfl rfl rfl ?_
      refine o_pure (p_move (v := .int .i64 ((Lfu.touch u key).2.2)) rfl) rfl rfl rfl ?_
      refine o_storeN (i := 2) (vs := [.int .i64 (((Lfu.touch u key).1).room), .slice a11 (((Lfu.touch u key).1).list).length c12]) (cs' := [.int .i64 (((Lfu.touch u key).1).room), .slice a11 (((Lfu.touch u key).1).list).length c12]) rfl rfl rfl sz24 rfl rfl rfl rfl ?_
      refine o_pure (p_assign (v := .bool ((Lfu.touch u key).2.1)) rfl) rfl rfl rfl ?_
      refine o_pure (p_assign (v := .int .i64 ((Lfu.touch u key).2.2)) rfl) rfl rfl rfl ?_
      refine o_pure (p_assign (v := .int .i64 0) rfl) rfl rfl rfl ?_
      refine o_nil ?_
      refine q_then ?_
      refine c_ret ?_
      obtain ⟨ha, hae⟩ : _ ∧ _ := by first | exact Lfu.acc1 (c := u) (key := key) (by assumption) | exact Lfu.acc2 (c := u) (key := key) (by assumption) | exact Lfu.acc3 (c := u) (key := key) (by assumption) (by assumption)
      have hr0 : (((Lfu.touch u key).1).room : Int) = ((Lfu.access u key).1).room := by
        simp only [ha, hae, Lfu.zero]
      have hr1 : (((Lfu.touch u key).1).list : List DUse) = ((Lfu.access u key).1).list := by
        simp only [ha, hae, Lfu.zero]
      have hr2 : (((Lfu.touch u key).2.1) : Bool) = ((Lfu.access u key).2.1) := by
        simp only [ha, hae, Lfu.zero]
      have hr3 : (((Lfu.touch u key).2.2) : Int) = ((Lfu.access u key).2.2) := by
        simp only [ha, hae, Lfu.zero]
      have hr4 : (0 : Int) = (Lfu.accessErr u key) := by
        simp only [ha, hae, Lfu.zero]
      refine q_endM (p := (a11, c12)) S13 (rt4 rfl (r_cell (i := 2) rfl rfl sh24 rfl) (r_tmp rfl) (r_tmp rfl) (r_tmp rfl)) (i := 4) rfl ?_ ?_ ?_
      · exact (by have hcc := congr (congr (congr (congr (congrArg (fun (y0 : Int) (y1 : List DUse) (y2 : Bool) (y3 : Int) (y4 : Int) => (.tuple #[.agg #[.int .i64 y0, .slice a11 y1.length c12], .bool y2, .int .i64 y3, .int .i64 y4] : Value)) hr0) hr1) hr2) hr3) hr4; exact hcc)
      · exact fun w hw => hw.above (i := 4) (j := 1) (by decide) rfl rfl
      · intro w hw; exact Eq.mp (congrArg (fun y => SlO tUse _ w a11 c12 y) hr1) ((hw.at (i := 1) rfl).here)

set_option maxHeartbeats 8000000 in
set_option maxRecDepth 100000 in
theorem frun_ok (u : DUses) (au_0 : Option Addr) (cu_0 : Nat) (l : List Int) (al : Option Addr) (cl : Nat) : FnM Try.prog 16 [.agg #[.int .i64 u.room, .slice au_0 u.list.length cu_0], .slice al l.length cl] (fun w => Rd tUse w au_0 cu_0 u.list ∧ Rd tInt w al cl l) (Option Addr × Nat) (fun p => .tuple #[.agg #[.int .i64 (((Lfu.run u l).1).room), .slice p.1 (((Lfu.run u l).1).list).length p.2], .int .i64 ((Lfu.run u l).2), .int .i64 (Lfu.runErr u l)]) (fun p S w => SlO tUse S w p.1 p.2 (((Lfu.run u l).1).list)) := by
  refine fnM (nt := 47) (F0 := [(0, .agg #[.int .i64 u.room, .slice au_0 u.list.length cu_0]), (1, .slice al l.length cl)]) Try.func16 rfl Try.ntmps16 rfl rfl (fun w0 hpre => ?_)
  obtain ⟨hu_0, hl⟩ := hpre
  have hlhu_0 := hu_0.2.1
  have hlhl := hl.2.1
  refine c_seq ?_
  refine c_region ?_
  refine o_box (v := .agg #[.int .i64 u.room, .slice au_0 u.list.length cu_0]) rfl rfl (fun B1 => ?_)
  refine o_alloc ze24 rfl (fun B2 => ?_)
  refine o_pure (p_assign (v := .int .i64 0) rfl) rfl rfl rfl ?_
  refine o_pure (p_assign (v := .int .i64 0) rfl) rfl rfl rfl ?_
  refine o_nil ?_
  refine q_then ?_
  refine c_seq ?_
  refine c_region ?_
  refine o_pure (p_load_agg (i := 1) (vs := [.int .i64 u.room, .slice au_0 u.list.length cu_0]) rfl rfl sh24 rfl rfl) rfl rfl rfl ?_
  refine o_call0 (v := .int .i64 (Lfu.check u)) rfl (fcheck_ok u au_0 cu_0) hf25 (fun w hw => (rd_base (i := 2) rfl hu_0) w hw) rfl ?_
  refine o_pure (p_assign (v := .int .i64 (Lfu.check u)) rfl) rfl rfl rfl ?_
  refine o_nil ?_
  refine q_then ?_
  refine c_seq ?_
  refine c_seq ?_
  refine c_region ?_
  refine o_pure (p_move (v := .int .i64 (Lfu.check u)) rfl) rfl rfl rfl ?_
  refine o_pure (p_eq (p := (Lfu.check u)) (q := 0) rfl rfl) rfl rfl rfl ?_
  refine o_nil ?_
  refine q_then ?_
  refine c_cond (b := ((Lfu.check u) == 0)) rfl (fun hc3 => ?_) (fun hc3 => ?_)
  · simp only [beq_iff_eq] at hc3
    have hok := Lfu.ok_of hc3
    have hroom := hok.room
    have hlen := hok.len
    refine c_region ?_
    refine o_pure (p_move (v := .slice al l.length cl) rfl) rfl rfl rfl ?_
    refine o_call0 (v := .int .i64 (Lru.trace l)) rfl (checkTrace_ok l al cl) hf52 (fun w hw => (rd_base (i := 2) rfl hl) w hw) rfl ?_
    refine o_pure (p_assign (v := .int .i64 (Lru.trace l)) rfl) rfl rfl rfl ?_
    refine o_nil ?_
    refine q_then ?_
    refine c_seq ?_
    refine c_seq ?_
    refine c_region ?_
    refine o_pure (p_move (v := .int .i64 (Lru.trace l)) rfl) rfl rfl rfl ?_
    refine o_pure (p_ne (p := (Lru.trace l)) (q := 0) rfl rfl) rfl rfl rfl ?_
    refine o_nil ?_
    refine q_then ?_
    refine c_cond (b := ((Lru.trace l) != 0)) rfl (fun hc4 => ?_) (fun hc4 => ?_)
    · simp only [bne_iff_ne, ne_eq] at hc4
      refine c_seq ?_
      refine c_region ?_
      refine o_pure (p_build (cells := [.int .i64 0, .slice none 0 0]) fp24 ze24 rfl rfl) rfl rfl rfl ?_
      refine o_pure (p_move (v := .int .i64 (Lru.trace l)) rfl) rfl rfl rfl ?_
      refine o_storeN (i := 0) (vs := [.int .i64 0, .slice none 0 0]) (cs' := [.int .i64 0, .slice none 0 0]) rfl rfl rfl sz24 rfl rfl rfl rfl ?_
      refine o_pure (p_assign (v := .int .i64 0) rfl) rfl rfl rfl ?_
      refine o_pure (p_assign (v := .int .i64 (Lru.trace l)) rfl) rfl rfl rfl ?_
      refine o_nil ?_
      refine q_then ?_
      refine c_ret ?_
      refine q_then_ret ?_
      obtain ⟨ha, hae⟩ : _ ∧ _ := by first | exact Lfu.run1 (c := u) (l := l) (by assumption) | exact Lfu.run2 (c := u) (l := l) (by assumption) (by assumption) | (obtain ⟨h1, h2⟩ := Lfu.run3 (c := u) (l := l) (by assumption) (by assumption); rw [hI.done (by omega)] at h1; exact ⟨h1, h2⟩)
      have hr0 : (0 : Int) = ((Lfu.run u l).1).room := by
        simp only [ha, hae, Lfu.zero]
      have hr1 : ([] : List DUse) = ((Lfu.run u l).1).list := by
        simp only [ha, hae, Lfu.zero]
      have hr2 : (0 : Int) = ((Lfu.run u l).2) := by
        simp only [ha, hae, Lfu.zero]
      have hr3 : ((Lru.trace l) : Int) = (Lfu.runErr u l) := by
        simp only [ha, hae, Lfu.zero]
      refine q_endM (p := (none, 0)) (fun _ => False) (rt3 rfl (r_cell (i := 0) rfl rfl sh24 rfl) (r_tmp rfl) (r_tmp rfl)) (i := 2) rfl ?_ ?_ ?_
      · exact (by have hcc := congr (congr (congr (congrArg (fun (y0 : Int) (y1 : List DUse) (y2 : Int) (y3 : Int) => (.tuple #[.agg #[.int .i64 y0, .slice none y1.length 0], .int .i64 y2, .int .i64 y3] : Value)) hr0) hr1) hr2) hr3; exact hcc)
      · intro w hw b hb; exact hb.elim
      · intro w hw; exact Eq.mp (congrArg (fun y => SlO tUse _ w none 0 y) hr1) (SlO.nil tUse w)
    · simp only [bne_eq_false_iff_eq] at hc4
      refine c_skip ?_
      refine q_then ?_
      refine c_seq ?_
      refine c_region ?_
      refine o_pure (p_load_agg (i := 1) (vs := [.int .i64 u.room, .slice au_0 u.list.length cu_0]) rfl rfl sh24 rfl rfl) rfl rfl rfl ?_
      refine o_callX (pre := []) (R := [box B2 [.int .i64 0, .slice none 0 0] 24, box B1 [.int .i64 u.room, .slice au_0 u.list.length cu_0] 24, base w0]) rfl (fowned_ok u au_0 cu_0 (by omega)) hf50 rfl (fun w hw => (rdX (i := 2) (js := []) rfl (by decide) rfl (fun _ hA => slR_base hu_0 hA)) w hw) rfl ?_
      rintro ⟨B5, a6, c7, S8⟩
      refine o_asH (H' := [box B5 [.int .i64 u.room, .slice a6 u.list.length c7] 90, own tUse S8 a6 c7 u.list, box B2 [.int .i64 0, .slice none 0 0] 24, box B1 [.int .i64 u.room, .slice au_0 u.list.length cu_0] 24, base w0]) rfl ?_
      refine o_pure (p_assign (v := .pointer (some ⟨B5, 0, none⟩)) rfl) rfl rfl rfl ?_
      refine o_pure (p_assign (v := .int .i64 0) rfl) rfl rfl rfl ?_
      refine o_nil ?_
      refine q_then ?_
      refine c_seq ?_
      refine c_seq ?_
      refine c_region ?_
      refine o_pure (p_move (v := .slice al l.length cl) rfl) rfl rfl rfl ?_
      refine o_pure (p_len_slice (len := l.length) rfl rfl Try.underlying25) rfl rfl rfl ?_
      refine o_pure (p_move (v := .int .i64 0) rfl) rfl rfl rfl ?_
      refine o_nil ?_
      refine q_then ?_
      refine c_block ?_
      refine c_loop (St := Int × Nat × DUses × Option Addr × Nat × (Nat → Prop))
        (fun ⟨hits, k, cc, acc_0, ccc_0, Scc_0⟩ => [(4, .pointer (some ⟨B2, 0, none⟩)), (8, .pointer (some ⟨B5, 0, none⟩)), (9, .int .i64 hits), (26, .slice al l.length cl), (27, .int .i64 (l.length : Int)), (28, .int .i64 (k : Int))])
        (fun ⟨hits, k, cc, acc_0, ccc_0, Scc_0⟩ => [box B5 [.int .i64 cc.room, .slice acc_0 cc.list.length ccc_0] 90, own tUse Scc_0 acc_0 ccc_0 cc.list, box B2 [.int .i64 0, .slice none 0 0] 24, box B1 [.int .i64 u.room, .slice au_0 u.list.length cu_0] 24, base w0])
        (fun ⟨hits, k, cc, acc_0, ccc_0, Scc_0⟩ => Lfu.RInv u cc l hits k)
        (fun ⟨hits, k, cc, acc_0, ccc_0, Scc_0⟩ => l.length - k)
        (0, 0, u, a6, c7, S8) ?_ (Sub.cons rfl (Sub.cons rfl (Sub.cons rfl (Sub.cons rfl (Sub.cons rfl (Sub.cons rfl (Sub.nil _))))))) (fun _ hw => hw) ?_
      · exact Lfu.RInv.start' (by assumption) (by assumption)
      rintro ⟨hits, k, cc, acc_0, ccc_0, Scc_0⟩ hI K hK10
      have hn0 := hI.n0
      have hn1 := hI.n1
      show SC _ _ Try.prog 47 w0 _ _ [(4, .pointer (some ⟨B2, 0, none⟩)), (8, .pointer (some ⟨B5, 0, none⟩)), (9, .int .i64 hits), (26, .slice al l.length cl), (27, .int .i64 (l.length : Int)), (28, .int .i64 (k : Int))] [box B5 [.int .i64 cc.room, .slice acc_0 cc.list.length ccc_0] 90, own tUse Scc_0 acc_0 ccc_0 cc.list, box B2 [.int .i64 0, .slice none 0 0] 24, box B1 [.int .i64 u.room, .slice au_0 u.list.length cu_0] 24, base w0]
      refine c_seq ?_
      refine c_region ?_
      refine o_pure (p_lt (p := (k : Int)) (q := (l.length : Int)) rfl rfl) rfl rfl rfl ?_
      refine o_nil ?_
      refine q_then ?_
      refine c_seq ?_
      refine c_cond (b := decide ((k : Int) < (l.length : Int))) rfl (fun hc11 => ?_) (fun hc11 => ?_)
      · simp only [decide_eq_true_eq] at hc11
        refine c_skip ?_
        refine q_then ?_
        refine c_seq ?_
        refine c_block ?_
        refine c_seq ?_
        refine c_region ?_
        refine o_pure (p_indexAddr (L := l) (T := tInt) (i := (k : Int)) rfl rfl (rd_base (i := 4) rfl hl) Try.underlying25 sz3 (by omega) (by omega)) rfl rfl rfl ?_
        refine o_pure (p_loadE1 (i := k) (T := tInt) (L := l) (v := .int .i64 (l[k])) rfl (rd_base (i := 4) rfl hl) (by first | assumption | omega) sh3 rfl) rfl rfl rfl ?_
        refine o_pure (p_assign (v := .int .i64 (l[k])) rfl) rfl rfl rfl ?_
        refine o_nil ?_
        refine q_then ?_
        refine c_seq ?_
        refine c_region ?_
        refine o_pure (p_move (v := .pointer (some ⟨B5, 0, none⟩)) rfl) rfl rfl rfl ?_
        refine o_pure (p_move (v := .int .i64 (l[k])) rfl) rfl rfl rfl ?_
        refine o_callX (pre := [box B5 [.int .i64 cc.room, .slice acc_0 cc.list.length ccc_0] 90, own tUse Scc_0 acc_0 ccc_0 cc.list]) (R := [box B2 [.int .i64 0, .slice none 0 0] 24, box B1 [.int .i64 u.room, .slice au_0 u.list.length cu_0] 24, base w0]) rfl (ftouch_ok cc B5 acc_0 ccc_0 Scc_0 (l[k]) (by first | assumption | exact hI.ok | omega)) hf51 rfl (fun _ _ => trivial) rfl ?_
        rintro ⟨a12, c13, S14⟩
        refine o_asH (H' := [box B5 [.int .i64 (((Lfu.touch cc (l[k])).1).room), .slice a12 (((Lfu.touch cc (l[k])).1).list).length c13] 90, own tUse S14 a12 c13 (((Lfu.touch cc (l[k])).1).list), box B2 [.int .i64 0, .slice none 0 0] 24, box B1 [.int .i64 u.room, .slice au_0 u.list.length cu_0] 24, base w0]) rfl ?_
        refine o_pure (p_move (v := .tuple #[.bool ((Lfu.touch cc (l[k])).2.1), .int .i64 ((Lfu.touch cc (l[k])).2.2)]) rfl) rfl rfl rfl ?_
        refine o_pure (p_extract (vs := [.bool ((Lfu.touch cc (l[k])).2.1), .int .i64 ((Lfu.touch cc (l[k])).2.2)]) (v := .bool ((Lfu.touch cc (l[k])).2.1)) rfl rfl) rfl rfl rfl ?_
        refine o_pure (p_extract (vs := [.bool ((Lfu.touch cc (l[k])).2.1), .int .i64 ((Lfu.touch cc (l[k])).2.2)]) (v := .int .i64 ((Lfu.touch cc (l[k])).2.2)) rfl rfl) rfl rfl rfl ?_
        refine o_pure (p_assign (v := .bool ((Lfu.touch cc (l[k])).2.1)) rfl) rfl rfl rfl ?_
        refine o_pure (p_assign (v := .int .i64 ((Lfu.touch cc (l[k])).2.2)) rfl) rfl rfl rfl ?_
        refine o_nil ?_
        refine q_then ?_
        refine c_seq ?_
        refine c_region ?_
        refine o_pure (p_move (v := .bool ((Lfu.touch cc (l[k])).2.1)) rfl) rfl rfl rfl ?_
        refine o_nil ?_
        refine q_then ?_
        refine c_cond (b := ((Lfu.touch cc (l[k])).2.1)) rfl (fun hc16 => ?_) (fun hc16 => ?_)
        · skip
          refine c_region ?_
          refine o_pure (p_move (v := .int .i64 hits) rfl) rfl rfl rfl ?_
          refine o_pure (p_addb (p := hits) (q := 1) rfl rfl (by omega)) rfl rfl rfl ?_
          refine o_pure (p_assign (v := .int .i64 (hits + 1)) rfl) rfl rfl rfl ?_
          refine o_nil ?_
          refine q_block_normal (q_then ?_)
          refine c_region ?_
          refine o_pure (p_addb (p := (k : Int)) (q := 1) rfl rfl (by omega)) rfl rfl rfl ?_
          refine o_pure (p_move (v := .int .i64 ((k : Int) + 1)) rfl) rfl rfl rfl ?_
          refine o_nil ?_
          refine q_round hK10 ((hits + 1), k + 1, ((Lfu.touch cc (l[k])).1), a12, c13, S14) ?_ ?_ ?_ ?_
          · clear hK10
            first | exact hI.hit (by omega) (by assumption) | exact hI.miss (by omega) (by assumption)
          · (try dsimp only); omega
          · exact Sub.cons rfl (Sub.cons rfl (Sub.cons rfl (Sub.cons rfl (Sub.cons rfl (Sub.cons rfl (Sub.nil _))))))
          · exact fun _ hw => HeapIs.pick hw [0, 1, 2, 3, 4] (by decide) rfl
        · skip
          refine c_skip ?_
          refine q_block_normal (q_then ?_)
          refine c_region ?_
          refine o_pure (p_addb (p := (k : Int)) (q := 1) rfl rfl (by omega)) rfl rfl rfl ?_
          refine o_pure (p_move (v := .int .i64 ((k : Int) + 1)) rfl) rfl rfl rfl ?_
          refine o_nil ?_
          refine q_round hK10 (hits, k + 1, ((Lfu.touch cc (l[k])).1), a12, c13, S14) ?_ ?_ ?_ ?_
          · clear hK10
            first | exact hI.hit (by omega) (by assumption) | exact hI.miss (by omega) (by assumption)
          · (try dsimp only); omega
          · exact Sub.cons rfl (Sub.cons rfl (Sub.cons rfl (Sub.cons rfl (Sub.cons rfl (Sub.cons rfl (Sub.nil _))))))
          · exact fun _ hw => HeapIs.pick hw [0, 1, 2, 3, 4] (by decide) rfl
      · simp only [decide_eq_false_iff_not, Int.not_lt] at hc11
        refine c_exit ?_
        refine q_then_exit (q_then_exit (q_block_exit (q_then ?_)))
        refine c_seq ?_
        refine c_region ?_
        refine o_pure (p_move (v := .pointer (some ⟨B5, 0, none⟩)) rfl) rfl rfl rfl ?_
        refine o_pure (p_nilCheck rfl) rfl rfl rfl ?_
        refine o_pure (p_fieldAddr (B := B5) (j := 0) (j' := 0) rfl fo90_0 rfl) rfl rfl rfl ?_
        refine o_pure (p_load_agg (i := 0) (vs := [.int .i64 cc.room, .slice acc_0 cc.list.length ccc_0]) rfl rfl sh24 rfl rfl) rfl rfl rfl ?_
        refine o_pure (p_move (v := .int .i64 hits) rfl) rfl rfl rfl ?_
        refine o_storeN (i := 2) (vs := [.int .i64 cc.room, .slice acc_0 cc.list.length ccc_0]) (cs' := [.int .i64 cc.room, .slice acc_0 cc.list.length ccc_0]) rfl rfl rfl sz24 rfl rfl rfl rfl ?_
        refine o_pure (p_assign (v := .int .i64 hits) rfl) rfl rfl rfl ?_
        refine o_pure (p_assign (v := .int .i64 0) rfl) rfl rfl rfl ?_
        refine o_nil ?_
        refine q_then ?_
        refine c_ret ?_
        obtain ⟨ha, hae⟩ : _ ∧ _ := by first | exact Lfu.run1 (c := u) (l := l) (by assumption) | exact Lfu.run2 (c := u) (l := l) (by assumption) (by assumption) | (obtain ⟨h1, h2⟩ := Lfu.run3 (c := u) (l := l) (by assumption) (by assumption); rw [hI.done (by omega)] at h1; exact ⟨h1, h2⟩)
        have hr0 : (cc.room : Int) = ((Lfu.run u l).1).room := by
          simp only [ha, hae, Lfu.zero]
        have hr1 : (cc.list : List DUse) = ((Lfu.run u l).1).list := by
          simp only [ha, hae, Lfu.zero]
        have hr2 : (hits : Int) = ((Lfu.run u l).2) := by
          simp only [ha, hae, Lfu.zero]
        have hr3 : (0 : Int) = (Lfu.runErr u l) := by
          simp only [ha, hae, Lfu.zero]
        refine q_endM (p := (acc_0, ccc_0)) Scc_0 (rt3 rfl (r_cell (i := 2) rfl rfl sh24 rfl) (r_tmp rfl) (r_tmp rfl)) (i := 4) rfl ?_ ?_ ?_
        · exact (by have hcc := congr (congr (congr (congrArg (fun (y0 : Int) (y1 : List DUse) (y2 : Int) (y3 : Int) => (.tuple #[.agg #[.int .i64 y0, .slice acc_0 y1.length ccc_0], .int .i64 y2, .int .i64 y3] : Value)) hr0) hr1) hr2) hr3; exact hcc)
        · exact fun w hw => hw.above (i := 4) (j := 1) (by decide) rfl rfl
        · intro w hw; exact Eq.mp (congrArg (fun y => SlO tUse _ w acc_0 ccc_0 y) hr1) ((hw.at (i := 1) rfl).here)
  · simp only [beq_eq_false_iff_ne, ne_eq] at hc3
    refine c_skip ?_
    refine q_then ?_
    refine c_seq ?_
    refine c_seq ?_
    refine c_region ?_
    refine o_pure (p_move (v := .int .i64 (Lfu.check u)) rfl) rfl rfl rfl ?_
    refine o_pure (p_ne (p := (Lfu.check u)) (q := 0) rfl rfl) rfl rfl rfl ?_
    refine o_nil ?_
    refine q_then ?_
    refine c_cond (b := ((Lfu.check u) != 0)) rfl (fun hc17 => ?_) (fun hc17 => ?_)
    · simp only [bne_iff_ne, ne_eq] at hc17
      refine c_seq ?_
      refine c_region ?_
      refine o_pure (p_build (cells := [.int .i64 0, .slice none 0 0]) fp24 ze24 rfl rfl) rfl rfl rfl ?_
      refine o_pure (p_move (v := .int .i64 (Lfu.check u)) rfl) rfl rfl rfl ?_
      refine o_storeN (i := 0) (vs := [.int .i64 0, .slice none 0 0]) (cs' := [.int .i64 0, .slice none 0 0]) rfl rfl rfl sz24 rfl rfl rfl rfl ?_
      refine o_pure (p_assign (v := .int .i64 0) rfl) rfl rfl rfl ?_
      refine o_pure (p_assign (v := .int .i64 (Lfu.check u)) rfl) rfl rfl rfl ?_
      refine o_nil ?_
      refine q_then ?_
      refine c_ret ?_
      refine q_then_ret ?_
      obtain ⟨ha, hae⟩ : _ ∧ _ := by first | exact Lfu.run1 (c := u) (l := l) (by assumption) | exact Lfu.run2 (c := u) (l := l) (by assumption) (by assumption) | (obtain ⟨h1, h2⟩ := Lfu.run3 (c := u) (l := l) (by assumption) (by assumption); rw [hI.done (by omega)] at h1; exact ⟨h1, h2⟩)
      have hr0 : (0 : Int) = ((Lfu.run u l).1).room := by
        simp only [ha, hae, Lfu.zero]
      have hr1 : ([] : List DUse) = ((Lfu.run u l).1).list := by
        simp only [ha, hae, Lfu.zero]
      have hr2 : (0 : Int) = ((Lfu.run u l).2) := by
        simp only [ha, hae, Lfu.zero]
      have hr3 : ((Lfu.check u) : Int) = (Lfu.runErr u l) := by
        simp only [ha, hae, Lfu.zero]
      refine q_endM (p := (none, 0)) (fun _ => False) (rt3 rfl (r_cell (i := 0) rfl rfl sh24 rfl) (r_tmp rfl) (r_tmp rfl)) (i := 2) rfl ?_ ?_ ?_
      · exact (by have hcc := congr (congr (congr (congrArg (fun (y0 : Int) (y1 : List DUse) (y2 : Int) (y3 : Int) => (.tuple #[.agg #[.int .i64 y0, .slice none y1.length 0], .int .i64 y2, .int .i64 y3] : Value)) hr0) hr1) hr2) hr3; exact hcc)
      · intro w hw b hb; exact hb.elim
      · intro w hw; exact Eq.mp (congrArg (fun y => SlO tUse _ w none 0 y) hr1) (SlO.nil tUse w)
    · simp only [bne_eq_false_iff_eq] at hc17
      exfalso; first | contradiction | omega | simp_all
end Go.Proofs.Ytagbihjkdejdjaa
