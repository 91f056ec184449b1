/- The walks, printed by a program from the translation and a specification. -/
import Derived.Test.YtkndekkacimekaaSgF
import Derived.Test.YtkndekkacimekaaSgLaw
import Derived.Test.YtkndekkacimekaaSgW1
namespace Go.Proofs.Ytkndekkacimekaa
open Go.Sx Go.RowKit
set_option maxHeartbeats 8000000 in
set_option maxRecDepth 100000 in
theorem leave_young_ok (b : DHalls) (Bb : Nat) (ab_0 : Option Addr) (cb_0 : Nat) (Sb_0 : Nat → Prop) (ab_1 : Option Addr) (cb_1 : Nat) (Sb_1 : Nat → Prop) (key : Int) : FnX Try.prog 94 [.pointer (some ⟨Bb, 0, none⟩), .int .i64 key] [box Bb [.slice ab_0 b.young.length cb_0, .int .i64 b.first, .slice ab_1 b.old.length cb_1, .int .i64 b.second] 131, own tInt Sb_0 ab_0 cb_0 b.young, own tInt Sb_1 ab_1 cb_1 b.old] (fun _ => True) (Option Addr × Nat × (Nat → Prop) × Option Addr × Nat × (Nat → Prop)) (fun p => .bool (decide (key ∈ b.young))) (fun p => [box Bb [.slice p.1 (b.young.erase key).length p.2.1, .int .i64 b.first, .slice p.2.2.2.1 b.old.length p.2.2.2.2.1, .int .i64 b.second] 131, own tInt p.2.2.1 p.1 p.2.1 (b.young.erase key), own tInt p.2.2.2.2.2 p.2.2.2.1 p.2.2.2.2.1 b.old]) := by
  refine fnX (nt := 27) (F0 := [(0, .pointer (some ⟨Bb, 0, none⟩)), (1, .int .i64 key)]) Try.func94 rfl Try.ntmps94 rfl rfl (fun w0 hpre => ?_)
  refine c_know (fun w hw => own_len (i := 2) (T := tInt) hw rfl) (fun hlown_b_0 => ?_)
  obtain ⟨hcown_b_0, hlown_b_0⟩ := hlown_b_0
  refine c_know (fun w hw => own_len (i := 3) (T := tInt) hw rfl) (fun hlown_b_1 => ?_)
  obtain ⟨hcown_b_1, hlown_b_1⟩ := hlown_b_1
  refine c_seq ?_
  refine c_region ?_
  refine o_pure (p_assign (v := .bool false) rfl) rfl rfl rfl ?_
  refine o_nil ?_
  refine q_then ?_
  refine c_seq ?_
  refine c_region ?_
  refine o_pure (p_move (v := .pointer (some ⟨Bb, 0, none⟩)) rfl) rfl rfl rfl ?_
  refine o_pure (p_nilCheck rfl) rfl rfl rfl ?_
  refine o_pure (p_fieldAddr (B := Bb) (j := 0) (j' := 0) rfl fo129_0 rfl) rfl rfl rfl ?_
  refine o_pure (p_load (i := 1) (v := .slice ab_0 b.young.length cb_0) rfl rfl sh30 rfl) rfl rfl rfl ?_
  refine o_pure (p_move (v := .int .i64 key) rfl) rfl rfl rfl ?_
  refine o_call0 (v := .int .i64 (idxF (fun x : Int => (x == key)) b.young)) rfl (index_int_ok b.young ab_0 cb_0 key) hf88 (fun w hw => (rd_own (i := 2) rfl) w hw) rfl ?_
  refine o_pure (p_assign (v := .int .i64 (idxF (fun x : Int => (x == key)) b.young)) rfl) rfl rfl rfl ?_
  refine o_nil ?_
  refine q_then ?_
  refine c_seq ?_
  refine c_seq ?_
  refine c_region ?_
  refine o_pure (p_move (v := .int .i64 (idxF (fun x : Int => (x == key)) b.young)) rfl) rfl rfl rfl ?_
  refine o_pure (p_ge (p := (idxF (fun x : Int => (x == key)) b.young)) (q := 0) rfl rfl) rfl rfl rfl ?_
  refine o_nil ?_
  refine q_then ?_
  refine c_cond (b := decide (0 ≤ (idxF (fun x : Int => (x == key)) b.young))) rfl (fun hc1 => ?_) (fun hc1 => ?_)
  · simp only [decide_eq_true_eq] at hc1
    have hix : idxF (fun x : Int => (x == key)) b.young < b.young.length ∧ -1 ≤ idxF (fun x : Int => (x == key)) b.young := Lru.at_lt _ key
    have hnn : 0 ≤ idxF (fun x : Int => (x == key)) b.young := by omega
    refine c_region ?_
    refine o_pure (p_move (v := .pointer (some ⟨Bb, 0, none⟩)) rfl) rfl rfl rfl ?_
    refine o_pure (p_move (v := .pointer (some ⟨Bb, 0, none⟩)) rfl) rfl rfl rfl ?_
    refine o_pure (p_nilCheck rfl) rfl rfl rfl ?_
    refine o_pure (p_fieldAddr (B := Bb) (j := 0) (j' := 0) rfl fo129_0 rfl) rfl rfl rfl ?_
    refine o_pure (p_load (i := 1) (v := .slice ab_0 b.young.length cb_0) rfl rfl sh30 rfl) rfl rfl rfl ?_
    refine o_pure (p_move (v := .int .i64 (idxF (fun x : Int => (x == key)) b.young)) rfl) rfl rfl rfl ?_
    refine o_pure (p_move (v := .int .i64 (idxF (fun x : Int => (x == key)) b.young)) rfl) rfl rfl rfl ?_
    refine o_pure (p_addb (p := (idxF (fun x : Int => (x == key)) b.young)) (q := 1) rfl rfl (by omega)) rfl rfl rfl ?_
    refine o_pick (H' := [own tInt Sb_0 ab_0 cb_0 b.young, outer w0 [box Bb [.slice ab_0 b.young.length cb_0, .int .i64 b.first, .slice ab_1 b.old.length cb_1, .int .i64 b.second] 131, own tInt Sb_0 ab_0 cb_0 b.young, own tInt Sb_1 ab_1 cb_1 b.old], box Bb [.slice ab_0 b.young.length cb_0, .int .i64 b.first, .slice ab_1 b.old.length cb_1, .int .i64 b.second] 131, own tInt Sb_1 ab_1 cb_1 b.old]) [2, 0, 1, 3] (by decide) rfl ?_
    refine o_callX (pre := [own tInt Sb_0 ab_0 cb_0 b.young]) (R := [outer w0 [box Bb [.slice ab_0 b.young.length cb_0, .int .i64 b.first, .slice ab_1 b.old.length cb_1, .int .i64 b.second] 131, own tInt Sb_0 ab_0 cb_0 b.young, own tInt Sb_1 ab_1 cb_1 b.old], box Bb [.slice ab_0 b.young.length cb_0, .int .i64 b.first, .slice ab_1 b.old.length cb_1, .int .i64 b.second] 131, own tInt Sb_1 ab_1 cb_1 b.old]) rfl (delete_Int_ok b.young ab_0 cb_0 Sb_0 (idxF (fun x : Int => (x == key)) b.young) ((idxF (fun x : Int => (x == key)) b.young) + 1) (by omega)) hf89 rfl (fun _ _ => trivial) rfl ?_
    rintro ⟨a2, c3, S4⟩
    refine o_asH (H' := [own tInt S4 a2 c3 (b.young.take (idxF (fun x : Int => (x == key)) b.young).toNat ++ b.young.drop ((idxF (fun x : Int => (x == key)) b.young) + 1).toNat), outer w0 [box Bb [.slice ab_0 b.young.length cb_0, .int .i64 b.first, .slice ab_1 b.old.length cb_1, .int .i64 b.second] 131, own tInt Sb_0 ab_0 cb_0 b.young, own tInt Sb_1 ab_1 cb_1 b.old], box Bb [.slice ab_0 b.young.length cb_0, .int .i64 b.first, .slice ab_1 b.old.length cb_1, .int .i64 b.second] 131, own tInt Sb_1 ab_1 cb_1 b.old]) rfl ?_
    refine o_pure (p_nilCheck rfl) rfl rfl rfl ?_
    refine o_pure (p_fieldAddr (B := Bb) (j := 0) (j' := 0) rfl fo129_0 rfl) rfl rfl rfl ?_
    refine o_store (i := 2) (v := .slice a2 (b.young.take (idxF (fun x : Int => (x == key)) b.young).toNat ++ b.young.drop ((idxF (fun x : Int => (x == key)) b.young) + 1).toNat).length c3) (cs' := [.slice a2 (b.young.take (idxF (fun x : Int => (x == key)) b.young).toNat ++ b.young.drop ((idxF (fun x : Int => (x == key)) b.young) + 1).toNat).length c3, .int .i64 b.first, .slice ab_1 b.old.length cb_1, .int .i64 b.second]) rfl rfl rfl sz30 rfl rfl rfl ?_
    refine o_nil ?_
    refine q_then ?_
    refine c_seq ?_
    refine c_region ?_
    refine o_pure (p_move (v := .int .i64 (idxF (fun x : Int => (x == key)) b.young)) rfl) rfl rfl rfl ?_
    refine o_pure (p_ge (p := (idxF (fun x : Int => (x == key)) b.young)) (q := 0) rfl rfl) rfl rfl rfl ?_
    refine o_pure (p_assign (v := .bool (decide (0 ≤ (idxF (fun x : Int => (x == key)) b.young)))) rfl) rfl rfl rfl ?_
    refine o_nil ?_
    refine q_then ?_
    refine c_ret ?_
    have hr0 : ((b.young.take (idxF (fun x : Int => (x == key)) b.young).toNat ++ b.young.drop ((idxF (fun x : Int => (x == key)) b.young) + 1).toNat) : List Int) = b.young.erase key := by
      first | (rw [show (idxF (fun x : Int => (x == key)) b.young + 1).toNat = (idxF (fun x : Int => (x == key)) b.young).toNat + 1 by omega]; exact Lru.erase_at hnn) | exact (List.erase_of_not_mem hne).symm | exact decide_eq_decide.2 Lru.at_mem
    have hr4 : (decide (0 ≤ (idxF (fun x : Int => (x == key)) b.young)) : Bool) = (decide (key ∈ b.young)) := by
      first | (rw [show (idxF (fun x : Int => (x == key)) b.young + 1).toNat = (idxF (fun x : Int => (x == key)) b.young).toNat + 1 by omega]; exact Lru.erase_at hnn) | exact (List.erase_of_not_mem hne).symm | exact decide_eq_decide.2 Lru.at_mem
    refine q_endX (p := (a2, c3, S4, ab_1, cb_1, Sb_1)) (rt1 rfl (r_tmp rfl)) ?_ (fun w hw => ?_)
    · exact (by have hcc := congr (congrArg (fun (y0 : List Int) (y4 : Bool) => (.bool y4 : Value)) hr0) hr4; exact hcc)
    · have h2 := hw.pick (H' := [outer w0 [box Bb [.slice ab_0 b.young.length cb_0, .int .i64 b.first, .slice ab_1 b.old.length cb_1, .int .i64 b.second] 131, own tInt Sb_0 ab_0 cb_0 b.young, own tInt Sb_1 ab_1 cb_1 b.old], box Bb [.slice a2 (b.young.take (idxF (fun x : Int => (x == key)) b.young).toNat ++ b.young.drop ((idxF (fun x : Int => (x == key)) b.young) + 1).toNat).length c3, .int .i64 b.first, .slice ab_1 b.old.length cb_1, .int .i64 b.second] 131, own tInt S4 a2 c3 (b.young.take (idxF (fun x : Int => (x == key)) b.young).toNat ++ b.young.drop ((idxF (fun x : Int => (x == key)) b.young) + 1).toNat), own tInt Sb_1 ab_1 cb_1 b.old]) [1, 2, 0, 3] (by decide) rfl
      exact Eq.mp (congrArg (fun z => HeapIs w0 ((outer w0 [box Bb [.slice ab_0 b.young.length cb_0, .int .i64 b.first, .slice ab_1 b.old.length cb_1, .int .i64 b.second] 131, own tInt Sb_0 ab_0 cb_0 b.young, own tInt Sb_1 ab_1 cb_1 b.old]) :: z) w) ((by have hcc := congr (congrArg (fun (y0 : List Int) (y4 : Bool) => ([box Bb [.slice a2 y0.length c3, .int .i64 b.first, .slice ab_1 b.old.length cb_1, .int .i64 b.second] 131, own tInt S4 a2 c3 y0, own tInt Sb_1 ab_1 cb_1 b.old] : List Ent)) hr0) hr4; exact hcc))) h2
  · simp only [decide_eq_false_iff_not, Int.not_le] at hc1
    have hne : key ∉ b.young := fun h => by have := Lru.at_mem.2 h; unfold Lru.at_ at this; omega
    refine c_skip ?_
    refine q_then ?_
    refine c_seq ?_
    refine c_region ?_
    refine o_pure (p_move (v := .int .i64 (idxF (fun x : Int => (x == key)) b.young)) rfl) rfl rfl rfl ?_
    refine o_pure (p_ge (p := (idxF (fun x : Int => (x == key)) b.young)) (q := 0) rfl rfl) rfl rfl rfl ?_
    refine o_pure (p_assign (v := .bool (decide (0 ≤ (idxF (fun x : Int => (x == key)) b.young)))) rfl) rfl rfl rfl ?_
    refine o_nil ?_
    refine q_then ?_
    refine c_ret ?_
    have hr0 : (b.young : List Int) = b.young.erase key := by
      first | (rw [show (idxF (fun x : Int => (x == key)) b.young + 1).toNat = (idxF (fun x : Int => (x == key)) b.young).toNat + 1 by omega]; exact Lru.erase_at hnn) | exact (List.erase_of_not_mem hne).symm | exact decide_eq_decide.2 Lru.at_mem
    have hr4 : (decide (0 ≤ (idxF (fun x : Int => (x == key)) b.young)) : Bool) = (decide (key ∈ b.young)) := by
      first | (rw [show (idxF (fun x : Int => (x == key)) b.young + 1).toNat = (idxF (fun x : Int => (x == key)) b.young).toNat + 1 by omega]; exact Lru.erase_at hnn) | exact (List.erase_of_not_mem hne).symm | exact decide_eq_decide.2 Lru.at_mem
    refine q_endX (p := (ab_0, cb_0, Sb_0, ab_1, cb_1, Sb_1)) (rt1 rfl (r_tmp rfl)) ?_ (fun w hw => ?_)
    · exact (by have hcc := congr (congrArg (fun (y0 : List Int) (y4 : Bool) => (.bool y4 : Value)) hr0) hr4; exact hcc)
    · have h2 := hw.pick (H' := [outer w0 [box Bb [.slice ab_0 b.young.length cb_0, .int .i64 b.first, .slice ab_1 b.old.length cb_1, .int .i64 b.second] 131, own tInt Sb_0 ab_0 cb_0 b.young, own tInt Sb_1 ab_1 cb_1 b.old], box Bb [.slice ab_0 b.young.length cb_0, .int .i64 b.first, .slice ab_1 b.old.length cb_1, .int .i64 b.second] 131, own tInt Sb_0 ab_0 cb_0 b.young, own tInt Sb_1 ab_1 cb_1 b.old]) [0, 1, 2, 3] (by decide) rfl
      exact Eq.mp (congrArg (fun z => HeapIs w0 ((outer w0 [box Bb [.slice ab_0 b.young.length cb_0, .int .i64 b.first, .slice ab_1 b.old.length cb_1, .int .i64 b.second] 131, own tInt Sb_0 ab_0 cb_0 b.young, own tInt Sb_1 ab_1 cb_1 b.old]) :: z) w) ((by have hcc := congr (congrArg (fun (y0 : List Int) (y4 : Bool) => ([box Bb [.slice ab_0 y0.length cb_0, .int .i64 b.first, .slice ab_1 b.old.length cb_1, .int .i64 b.second] 131, own tInt Sb_0 ab_0 cb_0 y0, own tInt Sb_1 ab_1 cb_1 b.old] : List Ent)) hr0) hr4; exact hcc))) h2

set_option maxHeartbeats 8000000 in
set_option maxRecDepth 100000 in
theorem leave_old_ok (b : DHalls) (Bb : Nat) (ab_0 : Option Addr) (cb_0 : Nat) (Sb_0 : Nat → Prop) (ab_1 : Option Addr) (cb_1 : Nat) (Sb_1 : Nat → Prop) (key : Int) : FnX Try.prog 94 [.pointer (some ⟨Bb, 2, none⟩), .int .i64 key] [box Bb [.slice ab_0 b.young.length cb_0, .int .i64 b.first, .slice ab_1 b.old.length cb_1, .int .i64 b.second] 131, own tInt Sb_0 ab_0 cb_0 b.young, own tInt Sb_1 ab_1 cb_1 b.old] (fun _ => True) (Option Addr × Nat × (Nat → Prop) × Option Addr × Nat × (Nat → Prop)) (fun p => .bool (decide (key ∈ b.old))) (fun p => [box Bb [.slice p.1 b.young.length p.2.1, .int .i64 b.first, .slice p.2.2.2.1 (b.old.erase key).length p.2.2.2.2.1, .int .i64 b.second] 131, own tInt p.2.2.1 p.1 p.2.1 b.young, own tInt p.2.2.2.2.2 p.2.2.2.1 p.2.2.2.2.1 (b.old.erase key)]) := by
  refine fnX (nt := 27) (F0 := [(0, .pointer (some ⟨Bb, 2, none⟩)), (1, .int .i64 key)]) Try.func94 rfl Try.ntmps94 rfl rfl (fun w0 hpre => ?_)
  refine c_know (fun w hw => own_len (i := 2) (T := tInt) hw rfl) (fun hlown_b_0 => ?_)
  obtain ⟨hcown_b_0, hlown_b_0⟩ := hlown_b_0
  refine c_know (fun w hw => own_len (i := 3) (T := tInt) hw rfl) (fun hlown_b_1 => ?_)
  obtain ⟨hcown_b_1, hlown_b_1⟩ := hlown_b_1
  refine c_seq ?_
  refine c_region ?_
  refine o_pure (p_assign (v := .bool false) rfl) rfl rfl rfl ?_
  refine o_nil ?_
  refine q_then ?_
  refine c_seq ?_
  refine c_region ?_
  refine o_pure (p_move (v := .pointer (some ⟨Bb, 2, none⟩)) rfl) rfl rfl rfl ?_
  refine o_pure (p_nilCheck rfl) rfl rfl rfl ?_
  refine o_pure (p_fieldAddr (B := Bb) (j := 2) (j' := 2) rfl fo129_0 rfl) rfl rfl rfl ?_
  refine o_pure (p_load (i := 1) (v := .slice ab_1 b.old.length cb_1) rfl rfl sh30 rfl) rfl rfl rfl ?_
  refine o_pure (p_move (v := .int .i64 key) rfl) rfl rfl rfl ?_
  refine o_call0 (v := .int .i64 (idxF (fun x : Int => (x == key)) b.old)) rfl (index_int_ok b.old ab_1 cb_1 key) hf88 (fun w hw => (rd_own (i := 3) rfl) w hw) rfl ?_
  refine o_pure (p_assign (v := .int .i64 (idxF (fun x : Int => (x == key)) b.old)) rfl) rfl rfl rfl ?_
  refine o_nil ?_
  refine q_then ?_
  refine c_seq ?_
  refine c_seq ?_
  refine c_region ?_
  refine o_pure (p_move (v := .int .i64 (idxF (fun x : Int => (x == key)) b.old)) rfl) rfl rfl rfl ?_
  refine o_pure (p_ge (p := (idxF (fun x : Int => (x == key)) b.old)) (q := 0) rfl rfl) rfl rfl rfl ?_
  refine o_nil ?_
  refine q_then ?_
  refine c_cond (b := decide (0 ≤ (idxF (fun x : Int => (x == key)) b.old))) rfl (fun hc1 => ?_) (fun hc1 => ?_)
  · simp only [decide_eq_true_eq] at hc1
    have hix : idxF (fun x : Int => (x == key)) b.old < b.old.length ∧ -1 ≤ idxF (fun x : Int => (x == key)) b.old := Lru.at_lt _ key
    have hnn : 0 ≤ idxF (fun x : Int => (x == key)) b.old := by omega
    refine c_region ?_
    refine o_pure (p_move (v := .pointer (some ⟨Bb, 2, none⟩)) rfl) rfl rfl rfl ?_
    refine o_pure (p_move (v := .pointer (some ⟨Bb, 2, none⟩)) rfl) rfl rfl rfl ?_
    refine o_pure (p_nilCheck rfl) rfl rfl rfl ?_
    refine o_pure (p_fieldAddr (B := Bb) (j := 2) (j' := 2) rfl fo129_0 rfl) rfl rfl rfl ?_
    refine o_pure (p_load (i := 1) (v := .slice ab_1 b.old.length cb_1) rfl rfl sh30 rfl) rfl rfl rfl ?_
    refine o_pure (p_move (v := .int .i64 (idxF (fun x : Int => (x == key)) b.old)) rfl) rfl rfl rfl ?_
    refine o_pure (p_move (v := .int .i64 (idxF (fun x : Int => (x == key)) b.old)) rfl) rfl rfl rfl ?_
    refine o_pure (p_addb (p := (idxF (fun x : Int => (x == key)) b.old)) (q := 1) rfl rfl (by omega)) rfl rfl rfl ?_
    refine o_pick (H' := [own tInt Sb_1 ab_1 cb_1 b.old, outer w0 [box Bb [.slice ab_0 b.young.length cb_0, .int .i64 b.first, .slice ab_1 b.old.length cb_1, .int .i64 b.second] 131, own tInt Sb_0 ab_0 cb_0 b.young, own tInt Sb_1 ab_1 cb_1 b.old], box Bb [.slice ab_0 b.young.length cb_0, .int .i64 b.first, .slice ab_1 b.old.length cb_1, .int .i64 b.second] 131, own tInt Sb_0 ab_0 cb_0 b.young]) [3, 0, 1, 2] (by decide) rfl ?_
    refine o_callX (pre := [own tInt Sb_1 ab_1 cb_1 b.old]) (R := [outer w0 [box Bb [.slice ab_0 b.young.length cb_0, .int .i64 b.first, .slice ab_1 b.old.length cb_1, .int .i64 b.second] 131, own tInt Sb_0 ab_0 cb_0 b.young, own tInt Sb_1 ab_1 cb_1 b.old], box Bb [.slice ab_0 b.young.length cb_0, .int .i64 b.first, .slice ab_1 b.old.length cb_1, .int .i64 b.second] 131, own tInt Sb_0 ab_0 cb_0 b.young]) rfl (delete_Int_ok b.old ab_1 cb_1 Sb_1 (idxF (fun x : Int => (x == key)) b.old) ((idxF (fun x : Int => (x == key)) b.old) + 1) (by omega)) hf89 rfl (fun _ _ => trivial) rfl ?_
    rintro ⟨a2, c3, S4⟩
    refine o_asH (H' := [own tInt S4 a2 c3 (b.old.take (idxF (fun x : Int => (x == key)) b.old).toNat ++ b.old.drop ((idxF (fun x : Int => (x == key)) b.old) + 1).toNat), outer w0 [box Bb [.slice ab_0 b.young.length cb_0, .int .i64 b.first, .slice ab_1 b.old.length cb_1, .int .i64 b.second] 131, own tInt Sb_0 ab_0 cb_0 b.young, own tInt Sb_1 ab_1 cb_1 b.old], box Bb [.slice ab_0 b.young.length cb_0, .int .i64 b.first, .slice ab_1 b.old.length cb_1, .int .i64 b.second] 131, own tInt Sb_0 ab_0 cb_0 b.young]) rfl ?_
    refine o_pure (p_nilCheck rfl) rfl rfl rfl ?_
    refine o_pure (p_fieldAddr (B := Bb) (j := 2) (j' := 2) rfl fo129_0 rfl) rfl rfl rfl ?_
    refine o_store (i := 2) (v := .slice a2 (b.old.take (idxF (fun x : Int => (x == key)) b.old).toNat ++ b.old.drop ((idxF (fun x : Int => (x == key)) b.old) + 1).toNat).length c3) (cs' := [.slice ab_0 b.young.length cb_0, .int .i64 b.first, .slice a2 (b.old.take (idxF (fun x : Int => (x == key)) b.old).toNat ++ b.old.drop ((idxF (fun x : Int => (x == key)) b.old) + 1).toNat).length c3, .int .i64 b.second]) rfl rfl rfl sz30 rfl rfl rfl ?_
    refine o_nil ?_
    refine q_then ?_
    refine c_seq ?_
    refine c_region ?_
    refine o_pure (p_move (v := .int .i64 (idxF (fun x : Int => (x == key)) b.old)) rfl) rfl rfl rfl ?_
    refine o_pure (p_ge (p := (idxF (fun x : Int => (x == key)) b.old)) (q := 0) rfl rfl) rfl rfl rfl ?_
    refine o_pure (p_assign (v := .bool (decide (0 ≤ (idxF (fun x : Int => (x == key)) b.old)))) rfl) rfl rfl rfl ?_
    refine o_nil ?_
    refine q_then ?_
    refine c_ret ?_
    have hr2 : ((b.old.take (idxF (fun x : Int => (x == key)) b.old).toNat ++ b.old.drop ((idxF (fun x : Int => (x == key)) b.old) + 1).toNat) : List Int) = b.old.erase key := by
      first | (rw [show (idxF (fun x : Int => (x == key)) b.old + 1).toNat = (idxF (fun x : Int => (x == key)) b.old).toNat + 1 by omega]; exact Lru.erase_at hnn) | exact (List.erase_of_not_mem hne).symm | exact decide_eq_decide.2 Lru.at_mem
    have hr4 : (decide (0 ≤ (idxF (fun x : Int => (x == key)) b.old)) : Bool) = (decide (key ∈ b.old)) := by
      first | (rw [show (idxF (fun x : Int => (x == key)) b.old + 1).toNat = (idxF (fun x : Int => (x == key)) b.old).toNat + 1 by omega]; exact Lru.erase_at hnn) | exact (List.erase_of_not_mem hne).symm | exact decide_eq_decide.2 Lru.at_mem
    refine q_endX (p := (ab_0, cb_0, Sb_0, a2, c3, S4)) (rt1 rfl (r_tmp rfl)) ?_ (fun w hw => ?_)
    · exact (by have hcc := congr (congrArg (fun (y2 : List Int) (y4 : Bool) => (.bool y4 : Value)) hr2) hr4; exact hcc)
    · have h2 := hw.pick (H' := [outer w0 [box Bb [.slice ab_0 b.young.length cb_0, .int .i64 b.first, .slice ab_1 b.old.length cb_1, .int .i64 b.second] 131, own tInt Sb_0 ab_0 cb_0 b.young, own tInt Sb_1 ab_1 cb_1 b.old], box Bb [.slice ab_0 b.young.length cb_0, .int .i64 b.first, .slice a2 (b.old.take (idxF (fun x : Int => (x == key)) b.old).toNat ++ b.old.drop ((idxF (fun x : Int => (x == key)) b.old) + 1).toNat).length c3, .int .i64 b.second] 131, own tInt Sb_0 ab_0 cb_0 b.young, own tInt S4 a2 c3 (b.old.take (idxF (fun x : Int => (x == key)) b.old).toNat ++ b.old.drop ((idxF (fun x : Int => (x == key)) b.old) + 1).toNat)]) [1, 2, 3, 0] (by decide) rfl
      exact Eq.mp (congrArg (fun z => HeapIs w0 ((outer w0 [box Bb [.slice ab_0 b.young.length cb_0, .int .i64 b.first, .slice ab_1 b.old.length cb_1, .int .i64 b.second] 131, own tInt Sb_0 ab_0 cb_0 b.young, own tInt Sb_1 ab_1 cb_1 b.old]) :: z) w) ((by have hcc := congr (congrArg (fun (y2 : List Int) (y4 : Bool) => ([box Bb [.slice ab_0 b.young.length cb_0, .int .i64 b.first, .slice a2 y2.length c3, .int .i64 b.second] 131, own tInt Sb_0 ab_0 cb_0 b.young, own tInt S4 a2 c3 y2] : List Ent)) hr2) hr4; exact hcc))) h2
  · simp only [decide_eq_false_iff_not, Int.not_le] at hc1
    have hne : key ∉ b.old := fun h => by have := Lru.at_mem.2 h; unfold Lru.at_ at this; omega
    refine c_skip ?_
    refine q_then ?_
    refine c_seq ?_
    refine c_region ?_
    refine o_pure (p_move (v := .int .i64 (idxF (fun x : Int => (x == key)) b.old)) rfl) rfl rfl rfl ?_
    refine o_pure (p_ge (p := (idxF (fun x : Int => (x == key)) b.old)) (q := 0) rfl rfl) rfl rfl rfl ?_
    refine o_pure (p_assign (v := .bool (decide (0 ≤ (idxF (fun x : Int => (x == key)) b.old)))) rfl) rfl rfl rfl ?_
    refine o_nil ?_
    refine q_then ?_
    refine c_ret ?_
    have hr2 : (b.old : List Int) = b.old.erase key := by
      first | (rw [show (idxF (fun x : Int => (x == key)) b.old + 1).toNat = (idxF (fun x : Int => (x == key)) b.old).toNat + 1 by omega]; exact Lru.erase_at hnn) | exact (List.erase_of_not_mem hne).symm | exact decide_eq_decide.2 Lru.at_mem
    have hr4 : (decide (0 ≤ (idxF (fun x : Int => (x == key)) b.old)) : Bool) = (decide (key ∈ b.old)) := by
      first | (rw [show (idxF (fun x : Int => (x == key)) b.old + 1).toNat = (idxF (fun x : Int => (x == key)) b.old).toNat + 1 by omega]; exact Lru.erase_at hnn) | exact (List.erase_of_not_mem hne).symm | exact decide_eq_decide.2 Lru.at_mem
    refine q_endX (p := (ab_0, cb_0, Sb_0, ab_1, cb_1, Sb_1)) (rt1 rfl (r_tmp rfl)) ?_ (fun w hw => ?_)
    · exact (by have hcc := congr (congrArg (fun (y2 : List Int) (y4 : Bool) => (.bool y4 : Value)) hr2) hr4; exact hcc)
    · have h2 := hw.pick (H' := [outer w0 [box Bb [.slice ab_0 b.young.length cb_0, .int .i64 b.first, .slice ab_1 b.old.length cb_1, .int .i64 b.second] 131, own tInt Sb_0 ab_0 cb_0 b.young, own tInt Sb_1 ab_1 cb_1 b.old], box Bb [.slice ab_0 b.young.length cb_0, .int .i64 b.first, .slice ab_1 b.old.length cb_1, .int .i64 b.second] 131, own tInt Sb_0 ab_0 cb_0 b.young, own tInt Sb_1 ab_1 cb_1 b.old]) [0, 1, 2, 3] (by decide) rfl
      exact Eq.mp (congrArg (fun z => HeapIs w0 ((outer w0 [box Bb [.slice ab_0 b.young.length cb_0, .int .i64 b.first, .slice ab_1 b.old.length cb_1, .int .i64 b.second] 131, own tInt Sb_0 ab_0 cb_0 b.young, own tInt Sb_1 ab_1 cb_1 b.old]) :: z) w) ((by have hcc := congr (congrArg (fun (y2 : List Int) (y4 : Bool) => ([box Bb [.slice ab_0 b.young.length cb_0, .int .i64 b.first, .slice ab_1 y2.length cb_1, .int .i64 b.second] 131, own tInt Sb_0 ab_0 cb_0 b.young, own tInt Sb_1 ab_1 cb_1 y2] : List Ent)) hr2) hr4; exact hcc))) h2

set_option maxHeartbeats 8000000 in
set_option maxRecDepth 100000 in
theorem enter_young_ok (b : DHalls) (Bb : Nat) (ab_0 : Option Addr) (cb_0 : Nat) (Sb_0 : Nat → Prop) (ab_1 : Option Addr) (cb_1 : Nat) (Sb_1 : Nat → Prop) (key : Int) (hy1 : 0 ≤ b.first ∧ b.young.length ≤ 1000) : FnX Try.prog 95 [.pointer (some ⟨Bb, 0, none⟩), .int .i64 key] [box Bb [.slice ab_0 b.young.length cb_0, .int .i64 b.first, .slice ab_1 b.old.length cb_1, .int .i64 b.second] 131, own tInt Sb_0 ab_0 cb_0 b.young, own tInt Sb_1 ab_1 cb_1 b.old] (fun _ => True) (Option Addr × Nat × (Nat → Prop) × Option Addr × Nat × (Nat → Prop) × Option Addr × Nat × (Nat → Prop)) (fun p => .slice p.2.2.2.2.2.2.1 ((key :: b.young).drop b.first.toNat).length p.2.2.2.2.2.2.2.1) (fun p => [box Bb [.slice p.1 ((key :: b.young).take b.first.toNat).length p.2.1, .int .i64 b.first, .slice p.2.2.2.1 b.old.length p.2.2.2.2.1, .int .i64 b.second] 131, own tInt p.2.2.1 p.1 p.2.1 ((key :: b.young).take b.first.toNat), own tInt p.2.2.2.2.2.1 p.2.2.2.1 p.2.2.2.2.1 b.old, own tInt p.2.2.2.2.2.2.2.2 p.2.2.2.2.2.2.1 p.2.2.2.2.2.2.2.1 ((key :: b.young).drop b.first.toNat)]) := by
  refine fnX (nt := 44) (F0 := [(0, .pointer (some ⟨Bb, 0, none⟩)), (1, .int .i64 key)]) Try.func95 rfl Try.ntmps95 rfl rfl (fun w0 hpre => ?_)
  refine c_know (fun w hw => own_len (i := 2) (T := tInt) hw rfl) (fun hlown_b_0 => ?_)
  obtain ⟨hcown_b_0, hlown_b_0⟩ := hlown_b_0
  refine c_know (fun w hw => own_len (i := 3) (T := tInt) hw rfl) (fun hlown_b_1 => ?_)
  obtain ⟨hcown_b_1, hlown_b_1⟩ := hlown_b_1
  refine c_seq ?_
  refine c_region ?_
  refine o_pure (p_assign (v := .slice none 0 0) rfl) rfl rfl rfl ?_
  refine o_nil ?_
  refine q_then ?_
  refine c_seq ?_
  refine c_region ?_
  refine o_pure (p_move (v := .pointer (some ⟨Bb, 0, none⟩)) rfl) rfl rfl rfl ?_
  refine o_pure (p_move (v := .pointer (some ⟨Bb, 0, none⟩)) rfl) rfl rfl rfl ?_
  refine o_pure (p_nilCheck rfl) rfl rfl rfl ?_
  refine o_pure (p_fieldAddr (B := Bb) (j := 0) (j' := 0) rfl fo129_0 rfl) rfl rfl rfl ?_
  refine o_pure (p_load (i := 1) (v := .slice ab_0 b.young.length cb_0) rfl rfl sh30 rfl) rfl rfl rfl ?_
  refine o_pure (p_move (v := .int .i64 key) rfl) rfl rfl rfl ?_
  refine o_buildSlice (m := 1) (T := tInt) (L := [key]) (vs := [.int .i64 key]) rfl rfl rfl rfl Try.underlying30 sz3 (by decide) ze3 rfl (by decide) rfl (fun S1 a2 => ?_)
  refine o_pick (H' := [own tInt Sb_0 ab_0 cb_0 b.young, own tInt S1 a2 ([key].length) ([key]), outer w0 [box Bb [.slice ab_0 b.young.length cb_0, .int .i64 b.first, .slice ab_1 b.old.length cb_1, .int .i64 b.second] 131, own tInt Sb_0 ab_0 cb_0 b.young, own tInt Sb_1 ab_1 cb_1 b.old], box Bb [.slice ab_0 b.young.length cb_0, .int .i64 b.first, .slice ab_1 b.old.length cb_1, .int .i64 b.second] 131, own tInt Sb_1 ab_1 cb_1 b.old]) [3, 0, 1, 2, 4] (by decide) rfl ?_
  refine o_callX (pre := [own tInt Sb_0 ab_0 cb_0 b.young, own tInt S1 a2 ([key].length) ([key])]) (R := [outer w0 [box Bb [.slice ab_0 b.young.length cb_0, .int .i64 b.first, .slice ab_1 b.old.length cb_1, .int .i64 b.second] 131, own tInt Sb_0 ab_0 cb_0 b.young, own tInt Sb_1 ab_1 cb_1 b.old], box Bb [.slice ab_0 b.young.length cb_0, .int .i64 b.first, .slice ab_1 b.old.length cb_1, .int .i64 b.second] 131, own tInt Sb_1 ab_1 cb_1 b.old]) rfl (insert_Int_ok b.young ab_0 cb_0 Sb_0 (0 : Int) ([key]) a2 ([key].length) S1 (by (try simp only [List.length_cons, List.length_nil, List.length_append, List.length_take, List.length_drop, and_true]); omega)) hf90 rfl (fun _ _ => trivial) rfl ?_
  rintro ⟨a4, c5, S6⟩
  refine o_asH (H' := [own tInt S6 a4 c5 (b.young.take (0 : Int).toNat ++ ([key]) ++ b.young.drop (0 : Int).toNat), outer w0 [box Bb [.slice ab_0 b.young.length cb_0, .int .i64 b.first, .slice ab_1 b.old.length cb_1, .int .i64 b.second] 131, own tInt Sb_0 ab_0 cb_0 b.young, own tInt Sb_1 ab_1 cb_1 b.old], box Bb [.slice ab_0 b.young.length cb_0, .int .i64 b.first, .slice ab_1 b.old.length cb_1, .int .i64 b.second] 131, own tInt Sb_1 ab_1 cb_1 b.old]) rfl ?_
  refine o_pure (p_nilCheck rfl) rfl rfl rfl ?_
  refine o_pure (p_fieldAddr (B := Bb) (j := 0) (j' := 0) rfl fo129_0 rfl) rfl rfl rfl ?_
  refine o_store (i := 2) (v := .slice a4 (b.young.take (0 : Int).toNat ++ ([key]) ++ b.young.drop (0 : Int).toNat).length c5) (cs' := [.slice a4 (b.young.take (0 : Int).toNat ++ ([key]) ++ b.young.drop (0 : Int).toNat).length c5, .int .i64 b.first, .slice ab_1 b.old.length cb_1, .int .i64 b.second]) rfl rfl rfl sz30 rfl rfl rfl ?_
  refine o_nil ?_
  refine q_then ?_
  refine c_seq ?_
  refine c_draw hmix (by kernel_rfl) ?_
  refine w_pure (p_move (v := .pointer (some ⟨Bb, 0, none⟩)) rfl) rfl rfl rfl ?_
  refine w_pure (p_nilCheck rfl) rfl rfl rfl ?_
  refine w_pure (p_fieldAddr (B := Bb) (j := 0) (j' := 0) rfl fo129_0 rfl) rfl rfl rfl ?_
  refine w_pure (p_load (i := 2) (v := .slice a4 (b.young.take (0 : Int).toNat ++ ([key]) ++ b.young.drop (0 : Int).toNat).length c5) rfl rfl sh30 rfl) rfl rfl rfl ?_
  refine w_pure (p_len_slice (len := (b.young.take (0 : Int).toNat ++ ([key]) ++ b.young.drop (0 : Int).toNat).length) rfl rfl Try.underlying30) rfl rfl rfl ?_
  refine w_pure (p_move (v := .pointer (some ⟨Bb, 0, none⟩)) rfl) rfl rfl rfl ?_
  refine w_pure (p_nilCheck rfl) rfl rfl rfl ?_
  refine w_pure (p_fieldAddr (B := Bb) (j := 0) (j' := 1) rfl fo129_1 rfl) rfl rfl rfl ?_
  refine w_pure (p_load (i := 2) (v := .int .i64 b.first) rfl rfl sh3 rfl) rfl rfl rfl ?_
  refine w_pure (p_min (p := ((b.young.take (0 : Int).toNat ++ ([key]) ++ b.young.drop (0 : Int).toNat).length : Int)) (q := b.first) rfl rfl) rfl rfl rfl ?_
  refine w_pure (p_assign (v := .int .i64 (min ((b.young.take (0 : Int).toNat ++ ([key]) ++ b.young.drop (0 : Int).toNat).length : Int) b.first)) rfl) rfl rfl rfl ?_
  refine w_nil ?_
  refine q_then ?_
  refine c_seq ?_
  refine c_region ?_
  refine o_pure (p_move (v := .pointer (some ⟨Bb, 0, none⟩)) rfl) rfl rfl rfl ?_
  refine o_pure (p_nilCheck rfl) rfl rfl rfl ?_
  refine o_pure (p_fieldAddr (B := Bb) (j := 0) (j' := 0) rfl fo129_0 rfl) rfl rfl rfl ?_
  refine o_pure (p_load (i := 2) (v := .slice a4 (b.young.take (0 : Int).toNat ++ ([key]) ++ b.young.drop (0 : Int).toNat).length c5) rfl rfl sh30 rfl) rfl rfl rfl ?_
  refine o_pure (p_move (v := .int .i64 (min ((b.young.take (0 : Int).toNat ++ ([key]) ++ b.young.drop (0 : Int).toNat).length : Int) b.first)) rfl) rfl rfl rfl ?_
  refine o_pure (p_sliceL (L := (b.young.take (0 : Int).toNat ++ ([key]) ++ b.young.drop (0 : Int).toNat)) (T := tInt) (l := (min ((b.young.take (0 : Int).toNat ++ ([key]) ++ b.young.drop (0 : Int).toNat).length : Int) b.first)) rfl rfl Try.underlying30 sz3 (by omega) (by omega) (rd_own (i := 0) rfl)) rfl rfl rfl ?_
  refine o_callM rfl (clone_Int_ok ((b.young.take (0 : Int).toNat ++ ([key]) ++ b.young.drop (0 : Int).toNat).drop ((min ((b.young.take (0 : Int).toNat ++ ([key]) ++ b.young.drop (0 : Int).toNat).length : Int) b.first).toNat)) (sa a4 c5 ((min ((b.young.take (0 : Int).toNat ++ ([key]) ++ b.young.drop (0 : Int).toNat).length : Int) b.first).toNat) tInt.k) (c5 - (min ((b.young.take (0 : Int).toNat ++ ([key]) ++ b.young.drop (0 : Int).toNat).length : Int) b.first).toNat) (by first | assumption | omega | (simp only [List.length_append, List.length_take, List.length_drop, List.length_cons, List.length_nil]; omega))) hf93 (fun w hw => (rd_dropC (l := (min ((b.young.take (0 : Int).toNat ++ ([key]) ++ b.young.drop (0 : Int).toNat).length : Int) b.first).toNat) (rd_own (i := 0) rfl) (by omega)) w hw) rfl (fun _ _ _ _ ha hA => SlO.agree ha hA) ?_
  rintro ⟨a10, c11⟩ S8
  refine o_know (fun w hw => own_len (i := 0) (T := tInt) hw rfl) (fun hlr12 => ?_)
  refine o_pure (p_assign (v := .slice a10 ((b.young.take (0 : Int).toNat ++ ([key]) ++ b.young.drop (0 : Int).toNat).drop ((min ((b.young.take (0 : Int).toNat ++ ([key]) ++ b.young.drop (0 : Int).toNat).length : Int) b.first).toNat)).length c11) rfl) rfl rfl rfl ?_
  refine o_nil ?_
  refine q_then ?_
  refine c_seq ?_
  refine c_region ?_
  refine o_pure (p_move (v := .pointer (some ⟨Bb, 0, none⟩)) rfl) rfl rfl rfl ?_
  refine o_pure (p_move (v := .pointer (some ⟨Bb, 0, none⟩)) rfl) rfl rfl rfl ?_
  refine o_pure (p_nilCheck rfl) rfl rfl rfl ?_
  refine o_pure (p_fieldAddr (B := Bb) (j := 0) (j' := 0) rfl fo129_0 rfl) rfl rfl rfl ?_
  refine o_pure (p_load (i := 3) (v := .slice a4 (b.young.take (0 : Int).toNat ++ ([key]) ++ b.young.drop (0 : Int).toNat).length c5) rfl rfl sh30 rfl) rfl rfl rfl ?_
  refine o_pure (p_move (v := .int .i64 (min ((b.young.take (0 : Int).toNat ++ ([key]) ++ b.young.drop (0 : Int).toNat).length : Int) b.first)) rfl) rfl rfl rfl ?_
  refine o_pure (p_sliceH (L := (b.young.take (0 : Int).toNat ++ ([key]) ++ b.young.drop (0 : Int).toNat)) (T := tInt) (h := (min ((b.young.take (0 : Int).toNat ++ ([key]) ++ b.young.drop (0 : Int).toNat).length : Int) b.first)) rfl rfl Try.underlying30 sz3 (by omega) (by omega) (rd_own (i := 1) rfl)) rfl rfl rfl ?_
  refine o_pure (p_nilCheck rfl) rfl rfl rfl ?_
  refine o_pure (p_fieldAddr (B := Bb) (j := 0) (j' := 0) rfl fo129_0 rfl) rfl rfl rfl ?_
  refine o_shrinkC (i := 1) (hi := (min ((b.young.take (0 : Int).toNat ++ ([key]) ++ b.young.drop (0 : Int).toNat).length : Int) b.first).toNat) (T := tInt) rfl (by omega) ?_
  refine o_store (i := 3) (v := .slice a4 ((b.young.take (0 : Int).toNat ++ ([key]) ++ b.young.drop (0 : Int).toNat).take ((min ((b.young.take (0 : Int).toNat ++ ([key]) ++ b.young.drop (0 : Int).toNat).length : Int) b.first).toNat)).length c5) (cs' := [.slice a4 ((b.young.take (0 : Int).toNat ++ ([key]) ++ b.young.drop (0 : Int).toNat).take ((min ((b.young.take (0 : Int).toNat ++ ([key]) ++ b.young.drop (0 : Int).toNat).length : Int) b.first).toNat)).length c5, .int .i64 b.first, .slice ab_1 b.old.length cb_1, .int .i64 b.second]) rfl rfl rfl sz30 rfl rfl rfl ?_
  refine o_nil ?_
  refine q_then ?_
  refine c_seq ?_
  refine c_region ?_
  refine o_pure (p_move (v := .slice a10 ((b.young.take (0 : Int).toNat ++ ([key]) ++ b.young.drop (0 : Int).toNat).drop ((min ((b.young.take (0 : Int).toNat ++ ([key]) ++ b.young.drop (0 : Int).toNat).length : Int) b.first).toNat)).length c11) rfl) rfl rfl rfl ?_
  refine o_pure (p_assign (v := .slice a10 ((b.young.take (0 : Int).toNat ++ ([key]) ++ b.young.drop (0 : Int).toNat).drop ((min ((b.young.take (0 : Int).toNat ++ ([key]) ++ b.young.drop (0 : Int).toNat).length : Int) b.first).toNat)).length c11) rfl) rfl rfl rfl ?_
  refine o_nil ?_
  refine q_then ?_
  refine c_ret ?_
  have hr0 : (((b.young.take (0 : Int).toNat ++ ([key]) ++ b.young.drop (0 : Int).toNat).take ((min ((b.young.take (0 : Int).toNat ++ ([key]) ++ b.young.drop (0 : Int).toNat).length : Int) b.first).toNat)) : List Int) = (key :: b.young).take b.first.toNat := by
    first | (rw [Seg.min_len]; exact Seg.cut_a _ _ _) | (rw [Seg.min_len]; exact Seg.cut_b _ _ _)
  have hr4 : (((b.young.take (0 : Int).toNat ++ ([key]) ++ b.young.drop (0 : Int).toNat).drop ((min ((b.young.take (0 : Int).toNat ++ ([key]) ++ b.young.drop (0 : Int).toNat).length : Int) b.first).toNat)) : List Int) = ((key :: b.young).drop b.first.toNat) := by
    first | (rw [Seg.min_len]; exact Seg.cut_a _ _ _) | (rw [Seg.min_len]; exact Seg.cut_b _ _ _)
  refine q_endX (p := (a4, c5, S6, ab_1, cb_1, Sb_1, a10, c11, S8)) (rt1 rfl (r_tmp rfl)) ?_ (fun w hw => ?_)
  · exact (by have hcc := congr (congrArg (fun (y0 : List Int) (y4 : List Int) => (.slice a10 y4.length c11 : Value)) hr0) hr4; exact hcc)
  · have h2 := hw.pick (H' := [outer w0 [box Bb [.slice ab_0 b.young.length cb_0, .int .i64 b.first, .slice ab_1 b.old.length cb_1, .int .i64 b.second] 131, own tInt Sb_0 ab_0 cb_0 b.young, own tInt Sb_1 ab_1 cb_1 b.old], box Bb [.slice a4 ((b.young.take (0 : Int).toNat ++ ([key]) ++ b.young.drop (0 : Int).toNat).take ((min ((b.young.take (0 : Int).toNat ++ ([key]) ++ b.young.drop (0 : Int).toNat).length : Int) b.first).toNat)).length c5, .int .i64 b.first, .slice ab_1 b.old.length cb_1, .int .i64 b.second] 131, own tInt S6 a4 c5 ((b.young.take (0 : Int).toNat ++ ([key]) ++ b.young.drop (0 : Int).toNat).take ((min ((b.young.take (0 : Int).toNat ++ ([key]) ++ b.young.drop (0 : Int).toNat).length : Int) b.first).toNat)), own tInt Sb_1 ab_1 cb_1 b.old, own tInt S8 a10 c11 ((b.young.take (0 : Int).toNat ++ ([key]) ++ b.young.drop (0 : Int).toNat).drop ((min ((b.young.take (0 : Int).toNat ++ ([key]) ++ b.young.drop (0 : Int).toNat).length : Int) b.first).toNat))]) [2, 3, 1, 4, 0] (by decide) rfl
    exact Eq.mp (congrArg (fun z => HeapIs w0 ((outer w0 [box Bb [.slice ab_0 b.young.length cb_0, .int .i64 b.first, .slice ab_1 b.old.length cb_1, .int .i64 b.second] 131, own tInt Sb_0 ab_0 cb_0 b.young, own tInt Sb_1 ab_1 cb_1 b.old]) :: z) w) ((by have hcc := congr (congrArg (fun (y0 : List Int) (y4 : List Int) => ([box Bb [.slice a4 y0.length c5, .int .i64 b.first, .slice ab_1 b.old.length cb_1, .int .i64 b.second] 131, own tInt S6 a4 c5 y0, own tInt Sb_1 ab_1 cb_1 b.old, own tInt S8 a10 c11 y4] : List Ent)) hr0) hr4; exact hcc))) h2

set_option maxHeartbeats 8000000 in
set_option maxRecDepth 100000 in
theorem enter_old_ok (b : DHalls) (Bb : Nat) (ab_0 : Option Addr) (cb_0 : Nat) (Sb_0 : Nat → Prop) (ab_1 : Option Addr) (cb_1 : Nat) (Sb_1 : Nat → Prop) (key : Int) (hy1 : 0 ≤ b.second ∧ b.old.length ≤ 1000) : FnX Try.prog 95 [.pointer (some ⟨Bb, 2, none⟩), .int .i64 key] [box Bb [.slice ab_0 b.young.length cb_0, .int .i64 b.first, .slice ab_1 b.old.length cb_1, .int .i64 b.second] 131, own tInt Sb_0 ab_0 cb_0 b.young, own tInt Sb_1 ab_1 cb_1 b.old] (fun _ => True) (Option Addr × Nat × (Nat → Prop) × Option Addr × Nat × (Nat → Prop) × Option Addr × Nat × (Nat → Prop)) (fun p => .slice p.2.2.2.2.2.2.1 ((key :: b.old).drop b.second.toNat).length p.2.2.2.2.2.2.2.1) (fun p => [box Bb [.slice p.1 b.young.length p.2.1, .int .i64 b.first, .slice p.2.2.2.1 ((key :: b.old).take b.second.toNat).length p.2.2.2.2.1, .int .i64 b.second] 131, own tInt p.2.2.1 p.1 p.2.1 b.young, own tInt p.2.2.2.2.2.1 p.2.2.2.1 p.2.2.2.2.1 ((key :: b.old).take b.second.toNat), own tInt p.2.2.2.2.2.2.2.2 p.2.2.2.2.2.2.1 p.2.2.2.2.2.2.2.1 ((key :: b.old).drop b.second.toNat)]) := by
  refine fnX (nt := 44) (F0 := [(0, .pointer (some ⟨Bb, 2, none⟩)), (1, .int .i64 key)]) Try.func95 rfl Try.ntmps95 rfl rfl (fun w0 hpre => ?_)
  refine c_know (fun w hw => own_len (i := 2) (T := tInt) hw rfl) (fun hlown_b_0 => ?_)
  obtain ⟨hcown_b_0, hlown_b_0⟩ := hlown_b_0
  refine c_know (fun w hw => own_len (i := 3) (T := tInt) hw rfl) (fun hlown_b_1 => ?_)
  obtain ⟨hcown_b_1, hlown_b_1⟩ := hlown_b_1
  refine c_seq ?_
  refine c_region ?_
  refine o_pure (p_assign (v := .slice none 0 0) rfl) rfl rfl rfl ?_
  refine o_nil ?_
  refine q_then ?_
  refine c_seq ?_
  refine c_region ?_
  refine o_pure (p_move (v := .pointer (some ⟨Bb, 2, none⟩)) rfl) rfl rfl rfl ?_
  refine o_pure (p_move (v := .pointer (some ⟨Bb, 2, none⟩)) rfl) rfl rfl rfl ?_
  refine o_pure (p_nilCheck rfl) rfl rfl rfl ?_
  refine o_pure (p_fieldAddr (B := Bb) (j := 2) (j' := 2) rfl fo129_0 rfl) rfl rfl rfl ?_
  refine o_pure (p_load (i := 1) (v := .slice ab_1 b.old.length cb_1) rfl rfl sh30 rfl) rfl rfl rfl ?_
  refine o_pure (p_move (v := .int .i64 key) rfl) rfl rfl rfl ?_
  refine o_buildSlice (m := 1) (T := tInt) (L := [key]) (vs := [.int .i64 key]) rfl rfl rfl rfl Try.underlying30 sz3 (by decide) ze3 rfl (by decide) rfl (fun S1 a2 => ?_)
  refine o_pick (H' := [own tInt Sb_1 ab_1 cb_1 b.old, own tInt S1 a2 ([key].length) ([key]), outer w0 [box Bb [.slice ab_0 b.young.length cb_0, .int .i64 b.first, .slice ab_1 b.old.length cb_1, .int .i64 b.second] 131, own tInt Sb_0 ab_0 cb_0 b.young, own tInt Sb_1 ab_1 cb_1 b.old], box Bb [.slice ab_0 b.young.length cb_0, .int .i64 b.first, .slice ab_1 b.old.length cb_1, .int .i64 b.second] 131, own tInt Sb_0 ab_0 cb_0 b.young]) [4, 0, 1, 2, 3] (by decide) rfl ?_
  refine o_callX (pre := [own tInt Sb_1 ab_1 cb_1 b.old, own tInt S1 a2 ([key].length) ([key])]) (R := [outer w0 [box Bb [.slice ab_0 b.young.length cb_0, .int .i64 b.first, .slice ab_1 b.old.length cb_1, .int .i64 b.second] 131, own tInt Sb_0 ab_0 cb_0 b.young, own tInt Sb_1 ab_1 cb_1 b.old], box Bb [.slice ab_0 b.young.length cb_0, .int .i64 b.first, .slice ab_1 b.old.length cb_1, .int .i64 b.second] 131, own tInt Sb_0 ab_0 cb_0 b.young]) rfl (insert_Int_ok b.old ab_1 cb_1 Sb_1 (0 : Int) ([key]) a2 ([key].length) S1 (by (try simp only [List.length_cons, List.length_nil, List.length_append, List.length_take, List.length_drop, and_true]); omega)) hf90 rfl (fun _ _ => trivial) rfl ?_
  rintro ⟨a4, c5, S6⟩
  refine o_asH (H' := [own tInt S6 a4 c5 (b.old.take (0 : Int).toNat ++ ([key]) ++ b.old.drop (0 : Int).toNat), outer w0 [box Bb [.slice ab_0 b.young.length cb_0, .int .i64 b.first, .slice ab_1 b.old.length cb_1, .int .i64 b.second] 131, own tInt Sb_0 ab_0 cb_0 b.young, own tInt Sb_1 ab_1 cb_1 b.old], box Bb [.slice ab_0 b.young.length cb_0, .int .i64 b.first, .slice ab_1 b.old.length cb_1, .int .i64 b.second] 131, own tInt Sb_0 ab_0 cb_0 b.young]) rfl ?_
  refine o_pure (p_nilCheck rfl) rfl rfl rfl ?_
  refine o_pure (p_fieldAddr (B := Bb) (j := 2) (j' := 2) rfl fo129_0 rfl) rfl rfl rfl ?_
  refine o_store (i := 2) (v := .slice a4 (b.old.take (0 : Int).toNat ++ ([key]) ++ b.old.drop (0 : Int).toNat).length c5) (cs' := [.slice ab_0 b.young.length cb_0, .int .i64 b.first, .slice a4 (b.old.take (0 : Int).toNat ++ ([key]) ++ b.old.drop (0 : Int).toNat).length c5, .int .i64 b.second]) rfl rfl rfl sz30 rfl rfl rfl ?_
  refine o_nil ?_
  refine q_then ?_
  refine c_seq ?_
  refine c_draw hmix (by kernel_rfl) ?_
  refine w_pure (p_move (v := .pointer (some ⟨Bb, 2, none⟩)) rfl) rfl rfl rfl ?_
  refine w_pure (p_nilCheck rfl) rfl rfl rfl ?_
  refine w_pure (p_fieldAddr (B := Bb) (j := 2) (j' := 2) rfl fo129_0 rfl) rfl rfl rfl ?_
  refine w_pure (p_load (i := 2) (v := .slice a4 (b.old.take (0 : Int).toNat ++ ([key]) ++ b.old.drop (0 : Int).toNat).length c5) rfl rfl sh30 rfl) rfl rfl rfl ?_
  refine w_pure (p_len_slice (len := (b.old.take (0 : Int).toNat ++ ([key]) ++ b.old.drop (0 : Int).toNat).length) rfl rfl Try.underlying30) rfl rfl rfl ?_
  refine w_pure (p_move (v := .pointer (some ⟨Bb, 2, none⟩)) rfl) rfl rfl rfl ?_
  refine w_pure (p_nilCheck rfl) rfl rfl rfl ?_
  refine w_pure (p_fieldAddr (B := Bb) (j := 2) (j' := 3) rfl fo129_1 rfl) rfl rfl rfl ?_
  refine w_pure (p_load (i := 2) (v := .int .i64 b.second) rfl rfl sh3 rfl) rfl rfl rfl ?_
  refine w_pure (p_min (p := ((b.old.take (0 : Int).toNat ++ ([key]) ++ b.old.drop (0 : Int).toNat).length : Int)) (q := b.second) rfl rfl) rfl rfl rfl ?_
  refine w_pure (p_assign (v := .int .i64 (min ((b.old.take (0 : Int).toNat ++ ([key]) ++ b.old.drop (0 : Int).toNat).length : Int) b.second)) rfl) rfl rfl rfl ?_
  refine w_nil ?_
  refine q_then ?_
  refine c_seq ?_
  refine c_region ?_
  refine o_pure (p_move (v := .pointer (some ⟨Bb, 2, none⟩)) rfl) rfl rfl rfl ?_
  refine o_pure (p_nilCheck rfl) rfl rfl rfl ?_
  refine o_pure (p_fieldAddr (B := Bb) (j := 2) (j' := 2) rfl fo129_0 rfl) rfl rfl rfl ?_
  refine o_pure (p_load (i := 2) (v := .slice a4 (b.old.take (0 : Int).toNat ++ ([key]) ++ b.old.drop (0 : Int).toNat).length c5) rfl rfl sh30 rfl) rfl rfl rfl ?_
  refine o_pure (p_move (v := .int .i64 (min ((b.old.take (0 : Int).toNat ++ ([key]) ++ b.old.drop (0 : Int).toNat).length : Int) b.second)) rfl) rfl rfl rfl ?_
  refine o_pure (p_sliceL (L := (b.old.take (0 : Int).toNat ++ ([key]) ++ b.old.drop (0 : Int).toNat)) (T := tInt) (l := (min ((b.old.take (0 : Int).toNat ++ ([key]) ++ b.old.drop (0 : Int).toNat).length : Int) b.second)) rfl rfl Try.underlying30 sz3 (by omega) (by omega) (rd_own (i := 0) rfl)) rfl rfl rfl ?_
  refine o_callM rfl (clone_Int_ok ((b.old.take (0 : Int).toNat ++ ([key]) ++ b.old.drop (0 : Int).toNat).drop ((min ((b.old.take (0 : Int).toNat ++ ([key]) ++ b.old.drop (0 : Int).toNat).length : Int) b.second).toNat)) (sa a4 c5 ((min ((b.old.take (0 : Int).toNat ++ ([key]) ++ b.old.drop (0 : Int).toNat).length : Int) b.second).toNat) tInt.k) (c5 - (min ((b.old.take (0 : Int).toNat ++ ([key]) ++ b.old.drop (0 : Int).toNat).length : Int) b.second).toNat) (by first | assumption | omega | (simp only [List.length_append, List.length_take, List.length_drop, List.length_cons, List.length_nil]; omega))) hf93 (fun w hw => (rd_dropC (l := (min ((b.old.take (0 : Int).toNat ++ ([key]) ++ b.old.drop (0 : Int).toNat).length : Int) b.second).toNat) (rd_own (i := 0) rfl) (by omega)) w hw) rfl (fun _ _ _ _ ha hA => SlO.agree ha hA) ?_
  rintro ⟨a10, c11⟩ S8
  refine o_know (fun w hw => own_len (i := 0) (T := tInt) hw rfl) (fun hlr12 => ?_)
  refine o_pure (p_assign (v := .slice a10 ((b.old.take (0 : Int).toNat ++ ([key]) ++ b.old.drop (0 : Int).toNat).drop ((min ((b.old.take (0 : Int).toNat ++ ([key]) ++ b.old.drop (0 : Int).toNat).length : Int) b.second).toNat)).length c11) rfl) rfl rfl rfl ?_
  refine o_nil ?_
  refine q_then ?_
  refine c_seq ?_
  refine c_region ?_
  refine o_pure (p_move (v := .pointer (some ⟨Bb, 2, none⟩)) rfl) rfl rfl rfl ?_
  refine o_pure (p_move (v := .pointer (some ⟨Bb, 2, none⟩)) rfl) rfl rfl rfl ?_
  refine o_pure (p_nilCheck rfl) rfl rfl rfl ?_
  refine o_pure (p_fieldAddr (B := Bb) (j := 2) (j' := 2) rfl fo129_0 rfl) rfl rfl rfl ?_
  refine o_pure (p_load (i := 3) (v := .slice a4 (b.old.take (0 : Int).toNat ++ ([key]) ++ b.old.drop (0 : Int).toNat).length c5) rfl rfl sh30 rfl) rfl rfl rfl ?_
  refine o_pure (p_move (v := .int .i64 (min ((b.old.take (0 : Int).toNat ++ ([key]) ++ b.old.drop (0 : Int).toNat).length : Int) b.second)) rfl) rfl rfl rfl ?_
  refine o_pure (p_sliceH (L := (b.old.take (0 : Int).toNat ++ ([key]) ++ b.old.drop (0 : Int).toNat)) (T := tInt) (h := (min ((b.old.take (0 : Int).toNat ++ ([key]) ++ b.old.drop (0 : Int).toNat).length : Int) b.second)) rfl rfl Try.underlying30 sz3 (by omega) (by omega) (rd_own (i := 1) rfl)) rfl rfl rfl ?_
  refine o_pure (p_nilCheck rfl) rfl rfl rfl ?_
  refine o_pure (p_fieldAddr (B := Bb) (j := 2) (j' := 2) rfl fo129_0 rfl) rfl rfl rfl ?_
  refine o_shrinkC (i := 1) (hi := (min ((b.old.take (0 : Int).toNat ++ ([key]) ++ b.old.drop (0 : Int).toNat).length : Int) b.second).toNat) (T := tInt) rfl (by omega) ?_
  refine o_store (i := 3) (v := .slice a4 ((b.old.take (0 : Int).toNat ++ ([key]) ++ b.old.drop (0 : Int).toNat).take ((min ((b.old.take (0 : Int).toNat ++ ([key]) ++ b.old.drop (0 : Int).toNat).length : Int) b.second).toNat)).length c5) (cs' := [.slice ab_0 b.young.length cb_0, .int .i64 b.first, .slice a4 ((b.old.take (0 : Int).toNat ++ ([key]) ++ b.old.drop (0 : Int).toNat).take ((min ((b.old.take (0 : Int).toNat ++ ([key]) ++ b.old.drop (0 : Int).toNat).length : Int) b.second).toNat)).length c5, .int .i64 b.second]) rfl rfl rfl sz30 rfl rfl rfl ?_
  refine o_nil ?_
  refine q_then ?_
  refine c_seq ?_
  refine c_region ?_
  refine o_pure (p_move (v := .slice a10 ((b.old.take (0 : Int).toNat ++ ([key]) ++ b.old.drop (0 : Int).toNat).drop ((min ((b.old.take (0 : Int).toNat ++ ([key]) ++ b.old.drop (0 : Int).toNat).length : Int) b.second).toNat)).length c11) rfl) rfl rfl rfl ?_
  refine o_pure (p_assign (v := .slice a10 ((b.old.take (0 : Int).toNat ++ ([key]) ++ b.old.drop (0 : Int).toNat).drop ((min ((b.old.take (0 : Int).toNat ++ ([key]) ++ b.old.drop (0 : Int).toNat).length : Int) b.second).toNat)).length c11) rfl) rfl rfl rfl ?_
  refine o_nil ?_
  refine q_then ?_
  refine c_ret ?_
  have hr2 : (((b.old.take (0 : Int).toNat ++ ([key]) ++ b.old.drop (0 : Int).toNat).take ((min ((b.old.take (0 : Int).toNat ++ ([key]) ++ b.old.drop (0 : Int).toNat).length : Int) b.second).toNat)) : List Int) = (key :: b.old).take b.second.toNat := by
    first | (rw [Seg.min_len]; exact Seg.cut_a _ _ _) | (rw [Seg.min_len]; exact Seg.cut_b _ _ _)
  have hr4 : (((b.old.take (0 : Int).toNat ++ ([key]) ++ b.old.drop (0 : Int).toNat).drop ((min ((b.old.take (0 : Int).toNat ++ ([key]) ++ b.old.drop (0 : Int).toNat).length : Int) b.second).toNat)) : List Int) = ((key :: b.old).drop b.second.toNat) := by
    first | (rw [Seg.min_len]; exact Seg.cut_a _ _ _) | (rw [Seg.min_len]; exact Seg.cut_b _ _ _)
  refine q_endX (p := (ab_0, cb_0, Sb_0, a4, c5, S6, a10, c11, S8)) (rt1 rfl (r_tmp rfl)) ?_ (fun w hw => ?_)
  · exact (by have hcc := congr (congrArg (fun (y2 : List Int) (y4 : List Int) => (.slice a10 y4.length c11 : Value)) hr2) hr4; exact hcc)
  · have h2 := hw.pick (H' := [outer w0 [box Bb [.slice ab_0 b.young.length cb_0, .int .i64 b.first, .slice ab_1 b.old.length cb_1, .int .i64 b.second] 131, own tInt Sb_0 ab_0 cb_0 b.young, own tInt Sb_1 ab_1 cb_1 b.old], box Bb [.slice ab_0 b.young.length cb_0, .int .i64 b.first, .slice a4 ((b.old.take (0 : Int).toNat ++ ([key]) ++ b.old.drop (0 : Int).toNat).take ((min ((b.old.take (0 : Int).toNat ++ ([key]) ++ b.old.drop (0 : Int).toNat).length : Int) b.second).toNat)).length c5, .int .i64 b.second] 131, own tInt Sb_0 ab_0 cb_0 b.young, own tInt S6 a4 c5 ((b.old.take (0 : Int).toNat ++ ([key]) ++ b.old.drop (0 : Int).toNat).take ((min ((b.old.take (0 : Int).toNat ++ ([key]) ++ b.old.drop (0 : Int).toNat).length : Int) b.second).toNat)), own tInt S8 a10 c11 ((b.old.take (0 : Int).toNat ++ ([key]) ++ b.old.drop (0 : Int).toNat).drop ((min ((b.old.take (0 : Int).toNat ++ ([key]) ++ b.old.drop (0 : Int).toNat).length : Int) b.second).toNat))]) [2, 3, 4, 1, 0] (by decide) rfl
    exact Eq.mp (congrArg (fun z => HeapIs w0 ((outer w0 [box Bb [.slice ab_0 b.young.length cb_0, .int .i64 b.first, .slice ab_1 b.old.length cb_1, .int .i64 b.second] 131, own tInt Sb_0 ab_0 cb_0 b.young, own tInt Sb_1 ab_1 cb_1 b.old]) :: z) w) ((by have hcc := congr (congrArg (fun (y2 : List Int) (y4 : List Int) => ([box Bb [.slice ab_0 b.young.length cb_0, .int .i64 b.first, .slice a4 y2.length c5, .int .i64 b.second] 131, own tInt Sb_0 ab_0 cb_0 b.young, own tInt S6 a4 c5 y2, own tInt S8 a10 c11 y4] : List Ent)) hr2) hr4; exact hcc))) h2

set_option maxHeartbeats 8000000 in
set_option maxRecDepth 100000 in
theorem sowned_ok (h : DHalls) (ah_0 : Option Addr) (ch_0 : Nat) (ah_1 : Option Addr) (ch_1 : Nat) (hy1 : h.young.length ≤ 1000 ∧ h.old.length ≤ 1000) : FnX Try.prog 64 [.agg #[.int .i64 h.first, .int .i64 h.second, .slice ah_0 h.young.length ch_0, .slice ah_1 h.old.length ch_1]] [] (fun w => SlR tInt (outer w []).S w ah_0 ch_0 h.young ∧ SlR tInt (outer w []).S w ah_1 ch_1 h.old) (Nat × Option Addr × Nat × (Nat → Prop) × Option Addr × Nat × (Nat → Prop)) (fun p => .pointer (some ⟨p.1, 0, none⟩)) (fun p => [box p.1 [.slice p.2.1 h.young.length p.2.2.1, .int .i64 h.first, .slice p.2.2.2.2.1 h.old.length p.2.2.2.2.2.1, .int .i64 h.second] 131, own tInt p.2.2.2.1 p.2.1 p.2.2.1 h.young, own tInt p.2.2.2.2.2.2 p.2.2.2.2.1 p.2.2.2.2.2.1 h.old]) := by
  refine fnX (nt := 17) (F0 := [(0, .agg #[.int .i64 h.first, .int .i64 h.second, .slice ah_0 h.young.length ch_0, .slice ah_1 h.old.length ch_1])]) Try.func64 rfl Try.ntmps64 rfl rfl (fun w0 hpre => ?_)
  obtain ⟨hh_0, hh_1⟩ := hpre
  have hlhh_0 := hh_0.2.1
  have hlhh_1 := hh_1.2.1
  refine c_seq ?_
  refine c_region ?_
  refine o_box (v := .agg #[.int .i64 h.first, .int .i64 h.second, .slice ah_0 h.young.length ch_0, .slice ah_1 h.old.length ch_1]) rfl rfl (fun B1 => ?_)
  refine o_pure (p_assign (v := .pointer none) rfl) rfl rfl rfl ?_
  refine o_nil ?_
  refine q_then ?_
  refine c_seq ?_
  refine c_held hmix [box B1 [.int .i64 h.first, .int .i64 h.second, .slice ah_0 h.young.length ch_0, .slice ah_1 h.old.length ch_1] 58, outer w0 []] rfl rfl ?_
  refine h_take (i := 0) (ls := #[true, false, false, false, false, false, false, false, false, false, false, false, false, false, false]) rfl (by kernel_rfl) (by kernel_rfl) (by kernel_rfl) (fun _ _ _ h => h) (p_fieldAddr (B := B1) (j := 0) (j' := 2) rfl fo58_2 rfl) rfl rfl rfl (fun _ hw => HeapIs.drop hw (List.Sublist.refl _)) rfl ?_
  refine h_take (i := 1) (ls := #[true, true, false, false, false, false, false, false, false, false, false, false, false, false, false]) rfl (by kernel_rfl) (by kernel_rfl) (by kernel_rfl) (fun _ _ _ h => h) (p_load (i := 0) (v := .slice ah_0 h.young.length ch_0) rfl rfl sh30 rfl) rfl rfl rfl (fun _ hw => HeapIs.drop hw (List.Sublist.refl _)) rfl ?_
  refine h_take (i := 3) (ls := #[true, true, false, true, false, false, false, false, false, false, false, false, false, false, false]) rfl (by kernel_rfl) (by kernel_rfl) (by kernel_rfl) (fun _ _ _ h => h) (p_fieldAddr (B := B1) (j := 0) (j' := 0) rfl fo58_0 rfl) rfl rfl rfl (fun _ hw => HeapIs.drop hw (List.Sublist.refl _)) rfl ?_
  refine h_take (i := 4) (ls := #[true, true, false, true, true, false, false, false, false, false, false, false, false, false, false]) rfl (by kernel_rfl) (by kernel_rfl) (by kernel_rfl) (fun _ _ _ h => h) (p_load (i := 0) (v := .int .i64 h.first) rfl rfl sh3 rfl) rfl rfl rfl (fun _ hw => HeapIs.drop hw (List.Sublist.refl _)) rfl ?_
  refine h_take (i := 6) (ls := #[true, true, false, true, true, false, true, false, false, false, false, false, false, false, false]) rfl (by kernel_rfl) (by kernel_rfl) (by kernel_rfl) (fun _ _ _ h => h) (p_fieldAddr (B := B1) (j := 0) (j' := 3) rfl fo58_3 rfl) rfl rfl rfl (fun _ hw => HeapIs.drop hw (List.Sublist.refl _)) rfl ?_
  refine h_take (i := 7) (ls := #[true, true, false, true, true, false, true, true, false, false, false, false, false, false, false]) rfl (by kernel_rfl) (by kernel_rfl) (by kernel_rfl) (fun _ _ _ h => h) (p_load (i := 0) (v := .slice ah_1 h.old.length ch_1) rfl rfl sh30 rfl) rfl rfl rfl (fun _ hw => HeapIs.drop hw (List.Sublist.refl _)) rfl ?_
  refine h_take (i := 9) (ls := #[true, true, false, true, true, false, true, true, false, true, false, false, false, false, false]) rfl (by kernel_rfl) (by kernel_rfl) (by kernel_rfl) (fun _ _ _ h => h) (p_fieldAddr (B := B1) (j := 0) (j' := 1) rfl fo58_1 rfl) rfl rfl rfl (fun _ hw => HeapIs.drop hw (List.Sublist.refl _)) rfl ?_
  refine h_take (i := 10) (ls := #[true, true, false, true, true, false, true, true, false, true, true, false, false, false, false]) rfl (by kernel_rfl) (by kernel_rfl) (by kernel_rfl) (fun _ _ _ h => h) (p_load (i := 0) (v := .int .i64 h.second) rfl rfl sh3 rfl) rfl rfl rfl (fun _ hw => HeapIs.drop hw (List.Sublist.refl _)) rfl ?_
  refine h_one (i := 2) (ls := #[true, true, true, true, true, false, true, true, false, true, true, false, false, false, false]) (by kernel_rfl) rfl rfl ?_
  refine o_callM rfl (clone_Int_ok h.young ah_0 ch_0 (by first | assumption | omega | (simp only [List.length_append, List.length_take, List.length_drop, List.length_cons, List.length_nil]; omega))) hf93 (fun w hw => (rd_outer (i := 1) rfl hh_0) w hw) rfl (fun _ _ _ _ ha hA => SlO.agree ha hA) ?_
  rintro ⟨a2_2, c2_2⟩ S2_2
  refine o_know (fun w hw => own_len (i := 0) (T := tInt) hw rfl) (fun hlr2_2 => ?_)
  refine o_nil ?_
  refine h_next (fun _ hw => HeapIs.drop hw (List.Sublist.cons _ (List.Sublist.cons_cons _ (List.Sublist.cons_cons _ (List.Sublist.slnil))))) ?_
  refine h_take (i := 5) (ls := #[true, true, true, true, true, true, true, true, false, true, true, false, false, false, false]) rfl (by kernel_rfl) (by kernel_rfl) (by kernel_rfl) (fun _ _ _ h => h) (p_build (cells := [.slice a2_2 h.young.length c2_2, .int .i64 h.first]) fp129 ze129 rfl rfl) rfl rfl rfl (fun _ hw => HeapIs.drop hw (List.Sublist.cons _ (List.Sublist.cons_cons _ (List.Sublist.cons_cons _ (List.Sublist.slnil))))) rfl ?_
  refine h_one (i := 8) (ls := #[true, true, true, true, true, true, true, true, true, true, true, false, false, false, false]) (by kernel_rfl) rfl rfl ?_
  refine o_callM rfl (clone_Int_ok h.old ah_1 ch_1 (by first | assumption | omega | (simp only [List.length_append, List.length_take, List.length_drop, List.length_cons, List.length_nil]; omega))) hf93 (fun w hw => (rd_outer (i := 2) rfl hh_1) w hw) rfl (fun _ _ _ _ ha hA => SlO.agree ha hA) ?_
  rintro ⟨a2_8, c2_8⟩ S2_8
  refine o_know (fun w hw => own_len (i := 0) (T := tInt) hw rfl) (fun hlr2_8 => ?_)
  refine o_nil ?_
  refine h_next (fun _ hw => HeapIs.drop hw (List.Sublist.cons _ (List.Sublist.cons _ (List.Sublist.cons_cons _ (List.Sublist.cons_cons _ (List.Sublist.slnil)))))) ?_
  refine h_take (i := 11) (ls := #[true, true, true, true, true, true, true, true, true, true, true, true, false, false, false]) rfl (by kernel_rfl) (by kernel_rfl) (by kernel_rfl) (fun _ _ _ h => h) (p_build (cells := [.slice a2_8 h.old.length c2_8, .int .i64 h.second]) fp129 ze129 rfl rfl) rfl rfl rfl (fun _ hw => HeapIs.drop hw (List.Sublist.cons _ (List.Sublist.cons _ (List.Sublist.cons_cons _ (List.Sublist.cons_cons _ (List.Sublist.slnil)))))) rfl ?_
  refine h_take (i := 12) (ls := #[true, true, true, true, true, true, true, true, true, true, true, true, true, false, false]) rfl (by kernel_rfl) (by kernel_rfl) (by kernel_rfl) (fun _ _ _ h => h) (p_build (cells := [.slice a2_2 h.young.length c2_2, .int .i64 h.first, .slice a2_8 h.old.length c2_8, .int .i64 h.second]) fp131 ze131 rfl rfl) rfl rfl rfl (fun _ hw => HeapIs.drop hw (List.Sublist.cons _ (List.Sublist.cons _ (List.Sublist.cons_cons _ (List.Sublist.cons_cons _ (List.Sublist.slnil)))))) rfl ?_
  refine h_one (i := 13) (ls := #[true, true, true, true, true, true, true, true, true, true, true, true, true, true, false]) (by kernel_rfl) rfl rfl ?_
  refine o_box (v := .agg #[.slice a2_2 h.young.length c2_2, .int .i64 h.first, .slice a2_8 h.old.length c2_8, .int .i64 h.second]) rfl rfl (fun B2_13 => ?_)
  refine o_nil ?_
  refine h_next (fun _ hw => HeapIs.drop hw (List.Sublist.cons _ (List.Sublist.cons _ (List.Sublist.cons _ (List.Sublist.cons_cons _ (List.Sublist.cons_cons _ (List.Sublist.slnil))))))) ?_
  refine h_take (i := 14) (ls := #[true, true, true, true, true, true, true, true, true, true, true, true, true, true, true]) rfl (by kernel_rfl) (by kernel_rfl) (by kernel_rfl) (fun _ _ _ h => h) (p_assign (v := .pointer (some ⟨B2_13, 0, none⟩)) rfl) rfl rfl rfl (fun _ hw => HeapIs.drop hw (List.Sublist.cons _ (List.Sublist.cons _ (List.Sublist.cons _ (List.Sublist.cons_cons _ (List.Sublist.cons_cons _ (List.Sublist.slnil))))))) rfl ?_
  refine h_done (by kernel_rfl) ?_
  refine q_then ?_
  refine c_ret ?_
  refine q_endX (p := (B2_13, a2_2, c2_2, S2_2, a2_8, c2_8, S2_8)) (rt1 rfl (r_tmp rfl)) ?_ (fun w hw => ?_)
  · exact rfl
  · have h2 := hw.pick (H' := [outer w0 [], box B2_13 [.slice a2_2 h.young.length c2_2, .int .i64 h.first, .slice a2_8 h.old.length c2_8, .int .i64 h.second] 131, own tInt S2_2 a2_2 c2_2 h.young, own tInt S2_8 a2_8 c2_8 h.old]) [4, 0, 2, 1] (by decide) rfl
    exact Eq.mp (congrArg (fun z => HeapIs w0 ((outer w0 []) :: z) w) (rfl)) h2

set_option maxHeartbeats 8000000 in
set_option maxRecDepth 100000 in
theorem shalls_ok (b : DHalls) (Bb : Nat) (ab_0 : Option Addr) (cb_0 : Nat) (Sb_0 : Nat → Prop) (ab_1 : Option Addr) (cb_1 : Nat) (Sb_1 : Nat → Prop) : FnX Try.prog 66 [.pointer (some ⟨Bb, 0, none⟩)] [box Bb [.slice ab_0 b.young.length cb_0, .int .i64 b.first, .slice ab_1 b.old.length cb_1, .int .i64 b.second] 131, own tInt Sb_0 ab_0 cb_0 b.young, own tInt Sb_1 ab_1 cb_1 b.old] (fun _ => True) (Option Addr × Nat × (Nat → Prop) × Option Addr × Nat × (Nat → Prop)) (fun p => .agg #[.int .i64 b.first, .int .i64 b.second, .slice p.1 b.young.length p.2.1, .slice p.2.2.2.1 b.old.length p.2.2.2.2.1]) (fun p => [own tInt p.2.2.1 p.1 p.2.1 b.young, own tInt p.2.2.2.2.2 p.2.2.2.1 p.2.2.2.2.1 b.old]) := by
  refine fnX (nt := 24) (F0 := [(0, .pointer (some ⟨Bb, 0, none⟩))]) Try.func66 rfl Try.ntmps66 rfl rfl (fun w0 hpre => ?_)
  refine c_know (fun w hw => own_len (i := 2) (T := tInt) hw rfl) (fun hlown_b_0 => ?_)
  obtain ⟨hcown_b_0, hlown_b_0⟩ := hlown_b_0
  refine c_know (fun w hw => own_len (i := 3) (T := tInt) hw rfl) (fun hlown_b_1 => ?_)
  obtain ⟨hcown_b_1, hlown_b_1⟩ := hlown_b_1
  refine c_seq ?_
  refine c_region ?_
  refine o_alloc ze58 rfl (fun B1 => ?_)
  refine o_nil ?_
  refine q_then ?_
  refine c_seq ?_
  refine c_held hmix [outer w0 [box Bb [.slice ab_0 b.young.length cb_0, .int .i64 b.first, .slice ab_1 b.old.length cb_1, .int .i64 b.second] 131, own tInt Sb_0 ab_0 cb_0 b.young, own tInt Sb_1 ab_1 cb_1 b.old], box Bb [.slice ab_0 b.young.length cb_0, .int .i64 b.first, .slice ab_1 b.old.length cb_1, .int .i64 b.second] 131, own tInt Sb_0 ab_0 cb_0 b.young, own tInt Sb_1 ab_1 cb_1 b.old] rfl rfl ?_
  refine h_take (i := 0) (ls := #[true, false, false, false, false, false, false, false, false, false, false, false, false, false, false, false, false, false, false, false, false, false]) rfl (by kernel_rfl) (by kernel_rfl) (by kernel_rfl) (fun _ _ _ h => h) (p_move (v := .pointer (some ⟨Bb, 0, none⟩)) rfl) rfl rfl rfl (fun _ hw => HeapIs.drop hw (List.Sublist.cons _ (List.Sublist.cons_cons _ (List.Sublist.cons_cons _ (List.Sublist.cons_cons _ (List.Sublist.cons_cons _ (List.Sublist.slnil))))))) rfl ?_
  refine h_take (i := 1) (ls := #[true, true, false, false, false, false, false, false, false, false, false, false, false, false, false, false, false, false, false, false, false, false]) rfl (by kernel_rfl) (by kernel_rfl) (by kernel_rfl) (fun _ _ _ h => h) (p_nilCheck rfl) rfl rfl rfl (fun _ hw => HeapIs.drop hw (List.Sublist.cons _ (List.Sublist.cons_cons _ (List.Sublist.cons_cons _ (List.Sublist.cons_cons _ (List.Sublist.cons_cons _ (List.Sublist.slnil))))))) rfl ?_
  refine h_take (i := 2) (ls := #[true, true, true, false, false, false, false, false, false, false, false, false, false, false, false, false, false, false, false, false, false, false]) rfl (by kernel_rfl) (by kernel_rfl) (by kernel_rfl) (fun _ _ _ h => h) (p_fieldAddr (B := Bb) (j := 0) (j' := 0) rfl fo131_0 rfl) rfl rfl rfl (fun _ hw => HeapIs.drop hw (List.Sublist.cons _ (List.Sublist.cons_cons _ (List.Sublist.cons_cons _ (List.Sublist.cons_cons _ (List.Sublist.cons_cons _ (List.Sublist.slnil))))))) rfl ?_
  refine h_take (i := 3) (ls := #[true, true, true, true, false, false, false, false, false, false, false, false, false, false, false, false, false, false, false, false, false, false]) rfl (by kernel_rfl) (by kernel_rfl) (by kernel_rfl) (fun _ _ _ h => h) (p_fieldAddr (B := Bb) (j := 0) (j' := 1) rfl fo129_1 rfl) rfl rfl rfl (fun _ hw => HeapIs.drop hw (List.Sublist.cons _ (List.Sublist.cons_cons _ (List.Sublist.cons_cons _ (List.Sublist.cons_cons _ (List.Sublist.cons_cons _ (List.Sublist.slnil))))))) rfl ?_
  refine h_take (i := 4) (ls := #[true, true, true, true, true, false, false, false, false, false, false, false, false, false, false, false, false, false, false, false, false, false]) rfl (by kernel_rfl) (by kernel_rfl) (by kernel_rfl) (fun _ _ _ h => h) (p_load (i := 1) (v := .int .i64 b.first) rfl rfl sh3 rfl) rfl rfl rfl (fun _ hw => HeapIs.drop hw (List.Sublist.cons _ (List.Sublist.cons_cons _ (List.Sublist.cons_cons _ (List.Sublist.cons_cons _ (List.Sublist.cons_cons _ (List.Sublist.slnil))))))) rfl ?_
  refine h_take (i := 5) (ls := #[true, true, true, true, true, true, false, false, false, false, false, false, false, false, false, false, false, false, false, false, false, false]) rfl (by kernel_rfl) (by kernel_rfl) (by kernel_rfl) (fun _ _ _ h => h) (p_move (v := .pointer (some ⟨Bb, 0, none⟩)) rfl) rfl rfl rfl (fun _ hw => HeapIs.drop hw (List.Sublist.cons _ (List.Sublist.cons_cons _ (List.Sublist.cons_cons _ (List.Sublist.cons_cons _ (List.Sublist.cons_cons _ (List.Sublist.slnil))))))) rfl ?_
  refine h_take (i := 6) (ls := #[true, true, true, true, true, true, true, false, false, false, false, false, false, false, false, false, false, false, false, false, false, false]) rfl (by kernel_rfl) (by kernel_rfl) (by kernel_rfl) (fun _ _ _ h => h) (p_nilCheck rfl) rfl rfl rfl (fun _ hw => HeapIs.drop hw (List.Sublist.cons _ (List.Sublist.cons_cons _ (List.Sublist.cons_cons _ (List.Sublist.cons_cons _ (List.Sublist.cons_cons _ (List.Sublist.slnil))))))) rfl ?_
  refine h_take (i := 7) (ls := #[true, true, true, true, true, true, true, true, false, false, false, false, false, false, false, false, false, false, false, false, false, false]) rfl (by kernel_rfl) (by kernel_rfl) (by kernel_rfl) (fun _ _ _ h => h) (p_fieldAddr (B := Bb) (j := 0) (j' := 2) rfl fo131_1 rfl) rfl rfl rfl (fun _ hw => HeapIs.drop hw (List.Sublist.cons _ (List.Sublist.cons_cons _ (List.Sublist.cons_cons _ (List.Sublist.cons_cons _ (List.Sublist.cons_cons _ (List.Sublist.slnil))))))) rfl ?_
  refine h_take (i := 8) (ls := #[true, true, true, true, true, true, true, true, true, false, false, false, false, false, false, false, false, false, false, false, false, false]) rfl (by kernel_rfl) (by kernel_rfl) (by kernel_rfl) (fun _ _ _ h => h) (p_fieldAddr (B := Bb) (j := 2) (j' := 3) rfl fo129_1 rfl) rfl rfl rfl (fun _ hw => HeapIs.drop hw (List.Sublist.cons _ (List.Sublist.cons_cons _ (List.Sublist.cons_cons _ (List.Sublist.cons_cons _ (List.Sublist.cons_cons _ (List.Sublist.slnil))))))) rfl ?_
  refine h_take (i := 9) (ls := #[true, true, true, true, true, true, true, true, true, true, false, false, false, false, false, false, false, false, false, false, false, false]) rfl (by kernel_rfl) (by kernel_rfl) (by kernel_rfl) (fun _ _ _ h => h) (p_load (i := 1) (v := .int .i64 b.second) rfl rfl sh3 rfl) rfl rfl rfl (fun _ hw => HeapIs.drop hw (List.Sublist.cons _ (List.Sublist.cons_cons _ (List.Sublist.cons_cons _ (List.Sublist.cons_cons _ (List.Sublist.cons_cons _ (List.Sublist.slnil))))))) rfl ?_
  refine h_take (i := 10) (ls := #[true, true, true, true, true, true, true, true, true, true, true, false, false, false, false, false, false, false, false, false, false, false]) rfl (by kernel_rfl) (by kernel_rfl) (by kernel_rfl) (fun _ _ _ h => h) (p_move (v := .pointer (some ⟨Bb, 0, none⟩)) rfl) rfl rfl rfl (fun _ hw => HeapIs.drop hw (List.Sublist.cons _ (List.Sublist.cons_cons _ (List.Sublist.cons_cons _ (List.Sublist.cons_cons _ (List.Sublist.cons_cons _ (List.Sublist.slnil))))))) rfl ?_
  refine h_take (i := 11) (ls := #[true, true, true, true, true, true, true, true, true, true, true, true, false, false, false, false, false, false, false, false, false, false]) rfl (by kernel_rfl) (by kernel_rfl) (by kernel_rfl) (fun _ _ _ h => h) (p_nilCheck rfl) rfl rfl rfl (fun _ hw => HeapIs.drop hw (List.Sublist.cons _ (List.Sublist.cons_cons _ (List.Sublist.cons_cons _ (List.Sublist.cons_cons _ (List.Sublist.cons_cons _ (List.Sublist.slnil))))))) rfl ?_
  refine h_take (i := 12) (ls := #[true, true, true, true, true, true, true, true, true, true, true, true, true, false, false, false, false, false, false, false, false, false]) rfl (by kernel_rfl) (by kernel_rfl) (by kernel_rfl) (fun _ _ _ h => h) (p_fieldAddr (B := Bb) (j := 0) (j' := 0) rfl fo131_0 rfl) rfl rfl rfl (fun _ hw => HeapIs.drop hw (List.Sublist.cons _ (List.Sublist.cons_cons _ (List.Sublist.cons_cons _ (List.Sublist.cons_cons _ (List.Sublist.cons_cons _ (List.Sublist.slnil))))))) rfl ?_
  refine h_take (i := 13) (ls := #[true, true, true, true, true, true, true, true, true, true, true, true, true, true, false, false, false, false, false, false, false, false]) rfl (by kernel_rfl) (by kernel_rfl) (by kernel_rfl) (fun _ _ _ h => h) (p_fieldAddr (B := Bb) (j := 0) (j' := 0) rfl fo129_0 rfl) rfl rfl rfl (fun _ hw => HeapIs.drop hw (List.Sublist.cons _ (List.Sublist.cons_cons _ (List.Sublist.cons_cons _ (List.Sublist.cons_cons _ (List.Sublist.cons_cons _ (List.Sublist.slnil))))))) rfl ?_
  refine h_take (i := 14) (ls := #[true, true, true, true, true, true, true, true, true, true, true, true, true, true, true, false, false, false, false, false, false, false]) rfl (by kernel_rfl) (by kernel_rfl) (by kernel_rfl) (fun _ _ _ h => h) (p_load (i := 1) (v := .slice ab_0 b.young.length cb_0) rfl rfl sh30 rfl) rfl rfl rfl (fun _ hw => HeapIs.drop hw (List.Sublist.cons _ (List.Sublist.cons_cons _ (List.Sublist.cons_cons _ (List.Sublist.cons_cons _ (List.Sublist.cons_cons _ (List.Sublist.slnil))))))) rfl ?_
  refine h_take (i := 15) (ls := #[true, true, true, true, true, true, true, true, true, true, true, true, true, true, true, true, false, false, false, false, false, false]) rfl (by kernel_rfl) (by kernel_rfl) (by kernel_rfl) (fun _ _ _ h => h) (p_move (v := .pointer (some ⟨Bb, 0, none⟩)) rfl) rfl rfl rfl (fun _ hw => HeapIs.drop hw (List.Sublist.cons _ (List.Sublist.cons_cons _ (List.Sublist.cons_cons _ (List.Sublist.cons_cons _ (List.Sublist.cons_cons _ (List.Sublist.slnil))))))) rfl ?_
  refine h_take (i := 16) (ls := #[true, true, true, true, true, true, true, true, true, true, true, true, true, true, true, true, true, false, false, false, false, false]) rfl (by kernel_rfl) (by kernel_rfl) (by kernel_rfl) (fun _ _ _ h => h) (p_nilCheck rfl) rfl rfl rfl (fun _ hw => HeapIs.drop hw (List.Sublist.cons _ (List.Sublist.cons_cons _ (List.Sublist.cons_cons _ (List.Sublist.cons_cons _ (List.Sublist.cons_cons _ (List.Sublist.slnil))))))) rfl ?_
  refine h_take (i := 17) (ls := #[true, true, true, true, true, true, true, true, true, true, true, true, true, true, true, true, true, true, false, false, false, false]) rfl (by kernel_rfl) (by kernel_rfl) (by kernel_rfl) (fun _ _ _ h => h) (p_fieldAddr (B := Bb) (j := 0) (j' := 2) rfl fo131_1 rfl) rfl rfl rfl (fun _ hw => HeapIs.drop hw (List.Sublist.cons _ (List.Sublist.cons_cons _ (List.Sublist.cons_cons _ (List.Sublist.cons_cons _ (List.Sublist.cons_cons _ (List.Sublist.slnil))))))) rfl ?_
  refine h_take (i := 18) (ls := #[true, true, true, true, true, true, true, true, true, true, true, true, true, true, true, true, true, true, true, false, false, false]) rfl (by kernel_rfl) (by kernel_rfl) (by kernel_rfl) (fun _ _ _ h => h) (p_fieldAddr (B := Bb) (j := 2) (j' := 2) rfl fo129_0 rfl) rfl rfl rfl (fun _ hw => HeapIs.drop hw (List.Sublist.cons _ (List.Sublist.cons_cons _ (List.Sublist.cons_cons _ (List.Sublist.cons_cons _ (List.Sublist.cons_cons _ (List.Sublist.slnil))))))) rfl ?_
  refine h_take (i := 19) (ls := #[true, true, true, true, true, true, true, true, true, true, true, true, true, true, true, true, true, true, true, true, false, false]) rfl (by kernel_rfl) (by kernel_rfl) (by kernel_rfl) (fun _ _ _ h => h) (p_load (i := 1) (v := .slice ab_1 b.old.length cb_1) rfl rfl sh30 rfl) rfl rfl rfl (fun _ hw => HeapIs.drop hw (List.Sublist.cons _ (List.Sublist.cons_cons _ (List.Sublist.cons_cons _ (List.Sublist.cons_cons _ (List.Sublist.cons_cons _ (List.Sublist.slnil))))))) rfl ?_
  refine h_take (i := 20) (ls := #[true, true, true, true, true, true, true, true, true, true, true, true, true, true, true, true, true, true, true, true, true, false]) rfl (by kernel_rfl) (by kernel_rfl) (by kernel_rfl) (fun _ _ _ h => h) (p_build (cells := [.int .i64 b.first, .int .i64 b.second, .slice ab_0 b.young.length cb_0, .slice ab_1 b.old.length cb_1]) fp58 ze58 rfl rfl) rfl rfl rfl (fun _ hw => HeapIs.drop hw (List.Sublist.cons _ (List.Sublist.cons_cons _ (List.Sublist.cons_cons _ (List.Sublist.cons_cons _ (List.Sublist.cons_cons _ (List.Sublist.slnil))))))) rfl ?_
  refine h_one (i := 21) (ls := #[true, true, true, true, true, true, true, true, true, true, true, true, true, true, true, true, true, true, true, true, true, true]) (by kernel_rfl) rfl rfl ?_
  refine o_storeN (i := 0) (vs := [.int .i64 b.first, .int .i64 b.second, .slice ab_0 b.young.length cb_0, .slice ab_1 b.old.length cb_1]) (cs' := [.int .i64 b.first, .int .i64 b.second, .slice ab_0 b.young.length cb_0, .slice ab_1 b.old.length cb_1]) rfl rfl rfl sz58 rfl rfl rfl rfl ?_
  refine o_nil ?_
  refine h_next (fun _ hw => HeapIs.drop hw (List.Sublist.cons _ (List.Sublist.cons_cons _ (List.Sublist.cons_cons _ (List.Sublist.cons_cons _ (List.Sublist.cons_cons _ (List.Sublist.slnil))))))) ?_
  refine h_done (by kernel_rfl) ?_
  refine q_then ?_
  refine c_ret ?_
  refine q_endX (p := (ab_0, cb_0, Sb_0, ab_1, cb_1, Sb_1)) (rt1 rfl (r_cell (i := 0) rfl rfl sh58 rfl)) ?_ (fun w hw => ?_)
  · exact rfl
  · have h2 := hw.pick (H' := [outer w0 [box Bb [.slice ab_0 b.young.length cb_0, .int .i64 b.first, .slice ab_1 b.old.length cb_1, .int .i64 b.second] 131, own tInt Sb_0 ab_0 cb_0 b.young, own tInt Sb_1 ab_1 cb_1 b.old], own tInt Sb_0 ab_0 cb_0 b.young, own tInt Sb_1 ab_1 cb_1 b.old]) [1, 3, 4] (by decide) rfl
    exact Eq.mp (congrArg (fun z => HeapIs w0 ((outer w0 [box Bb [.slice ab_0 b.young.length cb_0, .int .i64 b.first, .slice ab_1 b.old.length cb_1, .int .i64 b.second] 131, own tInt Sb_0 ab_0 cb_0 b.young, own tInt Sb_1 ab_1 cb_1 b.old]) :: z) w) (rfl)) h2
end Go.Proofs.Ytkndekkacimekaa
