/- The walks, printed by a program from the translation and a specification. -/
import Derived.Test.YtkndekkacimekaaTdF
import Derived.Test.YtkndekkacimekaaTdLaw
import Derived.Test.YtkndekkacimekaaTdW1
namespace Go.Proofs.Ytkndekkacimekaa
open Go.Sx Go.RowKit
set_option maxHeartbeats 8000000 in
set_option maxRecDepth 100000 in
theorem twithout_ok (l : List Int) (al : Option Addr) (cl : Nat) (Sl : Nat → Prop) (key : Int) : FnX Try.prog 98 [.slice al l.length cl, .int .i64 key] [own tInt Sl al cl l] (fun _ => True) (Option Addr × Nat × (Nat → Prop)) (fun p => .tuple #[.slice p.1 (l.erase key).length p.2.1, .bool (decide (key ∈ l))]) (fun p => [own tInt p.2.2 p.1 p.2.1 (l.erase key)]) := by
  refine fnX (nt := 18) (F0 := [(0, .slice al l.length cl), (1, .int .i64 key)]) Try.func98 rfl Try.ntmps98 rfl rfl (fun w0 hpre => ?_)
  refine c_know (fun w hw => own_len (i := 1) (T := tInt) hw rfl) (fun hlown_l => ?_)
  obtain ⟨hcown_l, hlown_l⟩ := hlown_l
  refine c_seq ?_
  refine c_region ?_
  refine o_pure (p_assign (v := .slice none 0 0) rfl) rfl rfl rfl ?_
  refine o_pure (p_assign (v := .bool false) rfl) rfl rfl rfl ?_
  refine o_nil ?_
  refine q_then ?_
  refine c_seq ?_
  refine c_region ?_
  refine o_pure (p_move (v := .slice al l.length cl) rfl) rfl rfl rfl ?_
  refine o_pure (p_move (v := .int .i64 key) rfl) rfl rfl rfl ?_
  refine o_call0 (v := .int .i64 (idxF (fun x : Int => (x == key)) l)) rfl (index_int_ok l al cl key) hf88 (fun w hw => (rd_own (i := 1) rfl) w hw) rfl ?_
  refine o_pure (p_assign (v := .int .i64 (idxF (fun x : Int => (x == key)) l)) rfl) rfl rfl rfl ?_
  refine o_nil ?_
  refine q_then ?_
  refine c_seq ?_
  refine c_seq ?_
  refine c_region ?_
  refine o_pure (p_move (v := .int .i64 (idxF (fun x : Int => (x == key)) l)) rfl) rfl rfl rfl ?_
  refine o_pure (p_lt (p := (idxF (fun x : Int => (x == key)) l)) (q := 0) rfl rfl) rfl rfl rfl ?_
  refine o_nil ?_
  refine q_then ?_
  refine c_cond (b := decide ((idxF (fun x : Int => (x == key)) l) < 0)) rfl (fun hc1 => ?_) (fun hc1 => ?_)
  · simp only [decide_eq_true_eq] at hc1
    have hix := Lru.at_lt l key
    have hne : key ∉ l := fun h => by have := Lru.at_mem.2 h; unfold Lru.at_ at this; omega
    refine c_seq ?_
    refine c_region ?_
    refine o_pure (p_move (v := .slice al l.length cl) rfl) rfl rfl rfl ?_
    refine o_pure (p_assign (v := .slice al l.length cl) rfl) rfl rfl rfl ?_
    refine o_pure (p_assign (v := .bool false) rfl) rfl rfl rfl ?_
    refine o_nil ?_
    refine q_then ?_
    refine c_ret ?_
    refine q_then_ret ?_
    have hr0 : (l : List Int) = (l.erase key) := by
      first | exact (List.erase_of_not_mem hne).symm | exact (decide_eq_false hne).symm | (rw [show (idxF (fun x : Int => (x == key)) l + 1).toNat = (idxF (fun x : Int => (x == key)) l).toNat + 1 by omega]; exact Lru.erase_at hnn) | exact (decide_eq_true (Lru.at_mem.1 hnn)).symm
    have hr1 : (false : Bool) = (decide (key ∈ l)) := by
      first | exact (List.erase_of_not_mem hne).symm | exact (decide_eq_false hne).symm | (rw [show (idxF (fun x : Int => (x == key)) l + 1).toNat = (idxF (fun x : Int => (x == key)) l).toNat + 1 by omega]; exact Lru.erase_at hnn) | exact (decide_eq_true (Lru.at_mem.1 hnn)).symm
    refine q_endX (p := (al, cl, Sl)) (rt2 rfl (r_tmp rfl) (r_tmp rfl)) ?_ (fun w hw => ?_)
    · exact (by have hcc := congr (congrArg (fun (y0 : List Int) (y1 : Bool) => (.tuple #[.slice al y0.length cl, .bool y1] : Value)) hr0) hr1; exact hcc)
    · have h2 := hw.pick (H' := [outer w0 [own tInt Sl al cl l], own tInt Sl al cl l]) [0, 1] (by decide) rfl
      exact Eq.mp (congrArg (fun z => HeapIs w0 ((outer w0 [own tInt Sl al cl l]) :: z) w) ((by have hcc := congr (congrArg (fun (y0 : List Int) (y1 : Bool) => ([own tInt Sl al cl y0] : List Ent)) hr0) hr1; exact hcc))) h2
  · simp only [decide_eq_false_iff_not, Int.not_lt] at hc1
    have hix : idxF (fun x : Int => (x == key)) l < l.length ∧ -1 ≤ idxF (fun x : Int => (x == key)) l := Lru.at_lt l key
    have hnn : 0 ≤ idxF (fun x : Int => (x == key)) l := by omega
    refine c_skip ?_
    refine q_then ?_
    refine c_seq ?_
    refine c_region ?_
    refine o_pure (p_move (v := .slice al l.length cl) rfl) rfl rfl rfl ?_
    refine o_pure (p_move (v := .int .i64 (idxF (fun x : Int => (x == key)) l)) rfl) rfl rfl rfl ?_
    refine o_pure (p_move (v := .int .i64 (idxF (fun x : Int => (x == key)) l)) rfl) rfl rfl rfl ?_
    refine o_pure (p_addb (p := (idxF (fun x : Int => (x == key)) l)) (q := 1) rfl rfl (by omega)) rfl rfl rfl ?_
    refine o_pick (H' := [own tInt Sl al cl l, outer w0 [own tInt Sl al cl l]]) [1, 0] (by decide) rfl ?_
    refine o_callX (pre := [own tInt Sl al cl l]) (R := [outer w0 [own tInt Sl al cl l]]) rfl (delete_Int_ok l al cl Sl (idxF (fun x : Int => (x == key)) l) ((idxF (fun x : Int => (x == key)) l) + 1) (by omega)) hf89 rfl (fun _ _ => trivial) rfl ?_
    rintro ⟨a2, c3, S4⟩
    refine o_asH (H' := [own tInt S4 a2 c3 (l.take (idxF (fun x : Int => (x == key)) l).toNat ++ l.drop ((idxF (fun x : Int => (x == key)) l) + 1).toNat), outer w0 [own tInt Sl al cl l]]) rfl ?_
    refine o_pure (p_assign (v := .slice a2 (l.take (idxF (fun x : Int => (x == key)) l).toNat ++ l.drop ((idxF (fun x : Int => (x == key)) l) + 1).toNat).length c3) rfl) rfl rfl rfl ?_
    refine o_pure (p_assign (v := .bool true) rfl) rfl rfl rfl ?_
    refine o_nil ?_
    refine q_then ?_
    refine c_ret ?_
    have hr0 : ((l.take (idxF (fun x : Int => (x == key)) l).toNat ++ l.drop ((idxF (fun x : Int => (x == key)) l) + 1).toNat) : List Int) = (l.erase key) := by
      first | exact (List.erase_of_not_mem hne).symm | exact (decide_eq_false hne).symm | (rw [show (idxF (fun x : Int => (x == key)) l + 1).toNat = (idxF (fun x : Int => (x == key)) l).toNat + 1 by omega]; exact Lru.erase_at hnn) | exact (decide_eq_true (Lru.at_mem.1 hnn)).symm
    have hr1 : (true : Bool) = (decide (key ∈ l)) := by
      first | exact (List.erase_of_not_mem hne).symm | exact (decide_eq_false hne).symm | (rw [show (idxF (fun x : Int => (x == key)) l + 1).toNat = (idxF (fun x : Int => (x == key)) l).toNat + 1 by omega]; exact Lru.erase_at hnn) | exact (decide_eq_true (Lru.at_mem.1 hnn)).symm
    refine q_endX (p := (a2, c3, S4)) (rt2 rfl (r_tmp rfl) (r_tmp rfl)) ?_ (fun w hw => ?_)
    · exact (by have hcc := congr (congrArg (fun (y0 : List Int) (y1 : Bool) => (.tuple #[.slice a2 y0.length c3, .bool y1] : Value)) hr0) hr1; exact hcc)
    · have h2 := hw.pick (H' := [outer w0 [own tInt Sl al cl l], own tInt S4 a2 c3 (l.take (idxF (fun x : Int => (x == key)) l).toNat ++ l.drop ((idxF (fun x : Int => (x == key)) l) + 1).toNat)]) [1, 0] (by decide) rfl
      exact Eq.mp (congrArg (fun z => HeapIs w0 ((outer w0 [own tInt Sl al cl l]) :: z) w) ((by have hcc := congr (congrArg (fun (y0 : List Int) (y1 : Bool) => ([own tInt S4 a2 c3 y0] : List Ent)) hr0) hr1; exact hcc))) h2

set_option maxHeartbeats 8000000 in
set_option maxRecDepth 100000 in
theorem tpushed_ok (l : List Int) (al : Option Addr) (cl : Nat) (Sl : Nat → Prop) (key : Int) (room : Int) (hy1 : 0 ≤ room ∧ l.length ≤ 1000) : FnX Try.prog 99 [.slice al l.length cl, .int .i64 key, .int .i64 room] [own tInt Sl al cl l] (fun _ => True) (Option Addr × Nat × (Nat → Prop)) (fun p => .tuple #[.slice p.1 (Tier.push l key room).length p.2.1, .int .i64 (Tier.over l key room)]) (fun p => [own tInt p.2.2 p.1 p.2.1 (Tier.push l key room)]) := by
  refine fnX (nt := 24) (F0 := [(0, .slice al l.length cl), (1, .int .i64 key), (2, .int .i64 room)]) Try.func99 rfl Try.ntmps99 rfl rfl (fun w0 hpre => ?_)
  refine c_know (fun w hw => own_len (i := 1) (T := tInt) hw rfl) (fun hlown_l => ?_)
  obtain ⟨hcown_l, hlown_l⟩ := hlown_l
  refine c_seq ?_
  refine c_region ?_
  refine o_pure (p_assign (v := .slice none 0 0) rfl) rfl rfl rfl ?_
  refine o_pure (p_assign (v := .int .i64 0) rfl) rfl rfl rfl ?_
  refine o_nil ?_
  refine q_then ?_
  refine c_seq ?_
  refine c_region ?_
  refine o_pure (p_move (v := .slice al l.length cl) rfl) rfl rfl rfl ?_
  refine o_pure (p_move (v := .int .i64 key) rfl) rfl rfl rfl ?_
  refine o_buildSlice (m := 1) (T := tInt) (L := [key]) (vs := [.int .i64 key]) rfl rfl rfl rfl Try.underlying30 sz3 (by decide) ze3 rfl (by decide) rfl (fun S1 a2 => ?_)
  refine o_pick (H' := [own tInt Sl al cl l, own tInt S1 a2 ([key].length) ([key]), outer w0 [own tInt Sl al cl l]]) [2, 0, 1] (by decide) rfl ?_
  refine o_callX (pre := [own tInt Sl al cl l, own tInt S1 a2 ([key].length) ([key])]) (R := [outer w0 [own tInt Sl al cl l]]) rfl (insert_Int_ok l al cl Sl (0 : Int) ([key]) a2 ([key].length) S1 (by (try simp only [List.length_cons, List.length_nil, List.length_append, List.length_take, List.length_drop, and_true]); omega)) hf90 rfl (fun _ _ => trivial) rfl ?_
  rintro ⟨a4, c5, S6⟩
  refine o_asH (H' := [own tInt S6 a4 c5 (l.take (0 : Int).toNat ++ ([key]) ++ l.drop (0 : Int).toNat), outer w0 [own tInt Sl al cl l]]) rfl ?_
  refine o_pure (p_assign (v := .slice a4 (l.take (0 : Int).toNat ++ ([key]) ++ l.drop (0 : Int).toNat).length c5) rfl) rfl rfl rfl ?_
  refine o_nil ?_
  refine q_then ?_
  refine c_seq ?_
  refine c_seq ?_
  refine c_region ?_
  refine o_pure (p_move (v := .slice a4 (l.take (0 : Int).toNat ++ ([key]) ++ l.drop (0 : Int).toNat).length c5) rfl) rfl rfl rfl ?_
  refine o_pure (p_len_slice (len := (l.take (0 : Int).toNat ++ ([key]) ++ l.drop (0 : Int).toNat).length) rfl rfl Try.underlying30) rfl rfl rfl ?_
  refine o_pure (p_move (v := .int .i64 room) rfl) rfl rfl rfl ?_
  refine o_pure (p_le (p := ((l.take (0 : Int).toNat ++ ([key]) ++ l.drop (0 : Int).toNat).length : Int)) (q := room) rfl rfl) rfl rfl rfl ?_
  refine o_nil ?_
  refine q_then ?_
  refine c_cond (b := decide (((l.take (0 : Int).toNat ++ ([key]) ++ l.drop (0 : Int).toNat).length : Int) ≤ room)) rfl (fun hc8 => ?_) (fun hc8 => ?_)
  · simp only [decide_eq_true_eq] at hc8
    obtain ⟨hpa, hpo⟩ := Tier.push_all (l := l) (key := key) (room := room) (by simp only [List.length_append, List.length_take, List.length_drop, List.length_cons, List.length_nil] at hc8; omega)
    refine c_seq ?_
    refine c_region ?_
    refine o_pure (p_move (v := .slice a4 (l.take (0 : Int).toNat ++ ([key]) ++ l.drop (0 : Int).toNat).length c5) rfl) rfl rfl rfl ?_
    refine o_pure (p_assign (v := .slice a4 (l.take (0 : Int).toNat ++ ([key]) ++ l.drop (0 : Int).toNat).length c5) rfl) rfl rfl rfl ?_
    refine o_pure (p_assign (v := .int .i64 (-1)) rfl) rfl rfl rfl ?_
    refine o_nil ?_
    refine q_then ?_
    refine c_ret ?_
    refine q_then_ret ?_
    have hr0 : ((l.take (0 : Int).toNat ++ ([key]) ++ l.drop (0 : Int).toNat) : List Int) = (Tier.push l key room) := by
      first | exact hpa | exact hpo | rfl | exact Tier.over_at hlt
    have hr1 : ((-1) : Int) = (Tier.over l key room) := by
      first | exact hpa | exact hpo | rfl | exact Tier.over_at hlt
    refine q_endX (p := (a4, c5, S6)) (rt2 rfl (r_tmp rfl) (r_tmp rfl)) ?_ (fun w hw => ?_)
    · exact (by have hcc := congr (congrArg (fun (y0 : List Int) (y1 : Int) => (.tuple #[.slice a4 y0.length c5, .int .i64 y1] : Value)) hr0) hr1; exact hcc)
    · have h2 := hw.pick (H' := [outer w0 [own tInt Sl al cl l], own tInt S6 a4 c5 (l.take (0 : Int).toNat ++ ([key]) ++ l.drop (0 : Int).toNat)]) [1, 0] (by decide) rfl
      exact Eq.mp (congrArg (fun z => HeapIs w0 ((outer w0 [own tInt Sl al cl l]) :: z) w) ((by have hcc := congr (congrArg (fun (y0 : List Int) (y1 : Int) => ([own tInt S6 a4 c5 y0] : List Ent)) hr0) hr1; exact hcc))) h2
  · simp only [decide_eq_false_iff_not, Int.not_le] at hc8
    have hlt : room.toNat < (key :: l).length := by simp only [List.length_append, List.length_take, List.length_drop, List.length_cons, List.length_nil] at hc8 ⊢; omega
    have hlt2 : room.toNat < (l.take (0 : Int).toNat ++ [key] ++ l.drop (0 : Int).toNat).length := hlt
    refine c_skip ?_
    refine q_then ?_
    refine c_seq ?_
    refine c_draw hmix (by kernel_rfl) ?_
    refine w_pure (p_move (v := .slice a4 (l.take (0 : Int).toNat ++ ([key]) ++ l.drop (0 : Int).toNat).length c5) rfl) rfl rfl rfl ?_
    refine w_pure (p_move (v := .int .i64 room) rfl) rfl rfl rfl ?_
    refine w_pure (p_sliceH (L := (l.take (0 : Int).toNat ++ ([key]) ++ l.drop (0 : Int).toNat)) (T := tInt) (h := room) rfl rfl Try.underlying30 sz3 (by omega) (by omega) (rd_own (i := 0) rfl)) rfl rfl rfl ?_
    refine w_pure (p_move (v := .slice a4 (l.take (0 : Int).toNat ++ ([key]) ++ l.drop (0 : Int).toNat).length c5) rfl) rfl rfl rfl ?_
    refine w_pure (p_move (v := .int .i64 room) rfl) rfl rfl rfl ?_
    refine w_pure (p_indexAddr (L := (l.take (0 : Int).toNat ++ ([key]) ++ l.drop (0 : Int).toNat)) (T := tInt) (i := room) rfl rfl (rd_own (i := 0) rfl) Try.underlying30 sz3 (by first | omega | (simp only [List.length_append, List.length_take, List.length_drop, List.length_cons, List.length_nil] at *; omega)) (by first | omega | (simp only [List.length_append, List.length_take, List.length_drop, List.length_cons, List.length_nil] at *; omega))) rfl rfl rfl ?_
    refine w_pure (p_loadE1 (i := room.toNat) (T := tInt) (L := (l.take (0 : Int).toNat ++ ([key]) ++ l.drop (0 : Int).toNat)) (v := .int .i64 ((l.take (0 : Int).toNat ++ ([key]) ++ l.drop (0 : Int).toNat)[room.toNat])) rfl (rd_own (i := 0) rfl) (by first | omega | (simp only [List.length_append, List.length_take, List.length_drop, List.length_cons, List.length_nil] at *; omega)) sh3 rfl) rfl rfl rfl ?_
    refine w_pure (p_assign (v := .slice a4 ((l.take (0 : Int).toNat ++ ([key]) ++ l.drop (0 : Int).toNat).take room.toNat).length c5) rfl) rfl rfl rfl ?_
    refine w_pure (p_assign (v := .int .i64 ((l.take (0 : Int).toNat ++ ([key]) ++ l.drop (0 : Int).toNat)[room.toNat])) rfl) rfl rfl rfl ?_
    refine w_nil ?_
    refine q_then ?_
    refine c_ret ?_
    refine q_shrinkC (i := 0) (hi := room.toNat) (T := tInt) rfl (by omega) ?_
    have hr0 : (((l.take (0 : Int).toNat ++ ([key]) ++ l.drop (0 : Int).toNat).take room.toNat) : List Int) = (Tier.push l key room) := by
      first | exact hpa | exact hpo | rfl | exact Tier.over_at hlt
    have hr1 : ((l.take (0 : Int).toNat ++ ([key]) ++ l.drop (0 : Int).toNat)[room.toNat] : Int) = (Tier.over l key room) := by
      first | exact hpa | exact hpo | rfl | exact Tier.over_at hlt
    refine q_endX (p := (a4, c5, S6)) (rt2 rfl (r_tmp rfl) (r_tmp rfl)) ?_ (fun w hw => ?_)
    · exact (by have hcc := congr (congrArg (fun (y0 : List Int) (y1 : Int) => (.tuple #[.slice a4 y0.length c5, .int .i64 y1] : Value)) hr0) hr1; exact hcc)
    · have h2 := hw.pick (H' := [outer w0 [own tInt Sl al cl l], own tInt S6 a4 c5 ((l.take (0 : Int).toNat ++ ([key]) ++ l.drop (0 : Int).toNat).take room.toNat)]) [1, 0] (by decide) rfl
      exact Eq.mp (congrArg (fun z => HeapIs w0 ((outer w0 [own tInt Sl al cl l]) :: z) w) ((by have hcc := congr (congrArg (fun (y0 : List Int) (y1 : Int) => ([own tInt S6 a4 c5 y0] : List Ent)) hr0) hr1; exact hcc))) h2

set_option maxHeartbeats 8000000 in
set_option maxRecDepth 100000 in
theorem town_ok (t : DTiers) (at_0 : Option Addr) (ct_0 : Nat) (at_1 : Option Addr) (ct_1 : Nat) (hy1 : t.first.length ≤ 1000 ∧ t.rest.length ≤ 1000) : FnX Try.prog 74 [.agg #[.int .i64 t.near, .int .i64 t.far, .slice at_0 t.first.length ct_0, .slice at_1 t.rest.length ct_1]] [] (fun w => SlR tInt (outer w []).S w at_0 ct_0 t.first ∧ SlR tInt (outer w []).S w at_1 ct_1 t.rest) (Nat × Option Addr × Nat × (Nat → Prop) × Option Addr × Nat × (Nat → Prop)) (fun p => .pointer (some ⟨p.1, 0, none⟩)) (fun p => [box p.1 [.int .i64 t.near, .int .i64 t.far, .slice p.2.1 t.first.length p.2.2.1, .slice p.2.2.2.2.1 t.rest.length p.2.2.2.2.2.1] 76, own tInt p.2.2.2.1 p.2.1 p.2.2.1 t.first, own tInt p.2.2.2.2.2.2 p.2.2.2.2.1 p.2.2.2.2.2.1 t.rest]) := by
  refine fnX (nt := 11) (F0 := [(0, .agg #[.int .i64 t.near, .int .i64 t.far, .slice at_0 t.first.length ct_0, .slice at_1 t.rest.length ct_1])]) Try.func74 rfl Try.ntmps74 rfl rfl (fun w0 hpre => ?_)
  obtain ⟨ht_0, ht_1⟩ := hpre
  have hlht_0 := ht_0.2.1
  have hlht_1 := ht_1.2.1
  refine c_seq ?_
  refine c_region ?_
  refine o_box (v := .agg #[.int .i64 t.near, .int .i64 t.far, .slice at_0 t.first.length ct_0, .slice at_1 t.rest.length ct_1]) rfl rfl (fun B1 => ?_)
  refine o_pure (p_assign (v := .pointer none) rfl) rfl rfl rfl ?_
  refine o_nil ?_
  refine q_then ?_
  refine c_seq ?_
  refine c_cut (G := (Nat → Prop) × Option Addr × Nat × (Nat → Prop) × Option Addr × Nat) (fun ⟨S2_2, a2_2, c2_2, S2_5, a2_5, c2_5⟩ => [(1, .pointer (some ⟨B1, 0, none⟩))]) (fun ⟨S2_2, a2_2, c2_2, S2_5, a2_5, c2_5⟩ => [own tInt S2_5 a2_5 c2_5 t.rest, own tInt S2_2 a2_2 c2_2 t.first, box B1 [.int .i64 t.near, .int .i64 t.far, .slice a2_2 t.first.length c2_2, .slice a2_5 t.rest.length c2_5] 76, outer w0 []]) (fun K hK3 => ?_) ?_
  · refine c_held hmix [outer w0 []] rfl rfl ?_
    refine h_take (i := 0) (ls := #[true, false, false, false, false, false, false, false, false, false]) rfl (by kernel_rfl) (by kernel_rfl) (by kernel_rfl) (fun _ _ _ h => h) (p_fieldAddr (B := B1) (j := 0) (j' := 2) rfl fo76_2 rfl) rfl rfl rfl (fun _ hw => HeapIs.drop hw (List.Sublist.cons _ (List.Sublist.cons_cons _ (List.Sublist.slnil)))) rfl ?_
    refine h_take (i := 3) (ls := #[true, false, false, true, false, false, false, false, false, false]) rfl (by kernel_rfl) (by kernel_rfl) (by kernel_rfl) (fun _ _ _ h => h) (p_fieldAddr (B := B1) (j := 0) (j' := 3) rfl fo76_3 rfl) rfl rfl rfl (fun _ hw => HeapIs.drop hw (List.Sublist.cons _ (List.Sublist.cons_cons _ (List.Sublist.slnil)))) rfl ?_
    refine h_two (i := 1) (j := 4) (ls := #[true, true, false, true, false, false, false, false, false, false]) (ls' := #[true, false, false, true, true, false, false, false, false, false]) (by kernel_rfl) rfl rfl rfl rfl ?_ ?_
    · refine o_pure (p_load (i := 0) (v := .slice at_0 t.first.length ct_0) rfl rfl sh30 rfl) rfl rfl rfl ?_
      refine o_nil ?_
      refine h_next (fun _ hw => HeapIs.drop hw (List.Sublist.cons _ (List.Sublist.cons_cons _ (List.Sublist.slnil)))) ?_
      refine h_two (i := 2) (j := 4) (ls := #[true, true, true, true, false, false, false, false, false, false]) (ls' := #[true, true, false, true, true, false, false, false, false, false]) (by kernel_rfl) rfl rfl rfl rfl ?_ ?_
      · refine o_callM rfl (clone_Int_ok t.first at_0 ct_0 (by first | assumption | omega | (simp only [List.length_append, List.length_take, List.length_drop, List.length_cons, List.length_nil]; omega))) hf93 (fun w hw => (rd_outer (i := 1) rfl ht_0) w hw) rfl (fun _ _ _ _ ha hA => SlO.agree ha hA) ?_
        rintro ⟨a2_2, c2_2⟩ S2_2
        refine o_know (fun w hw => own_len (i := 0) (T := tInt) hw rfl) (fun hlr2_2 => ?_)
        refine o_nil ?_
        refine h_next (fun _ hw => HeapIs.drop hw (List.Sublist.cons _ (List.Sublist.cons _ (List.Sublist.cons_cons _ (List.Sublist.slnil))))) ?_
        refine h_one (i := 4) (ls := #[true, true, true, true, true, false, false, false, false, false]) (by kernel_rfl) rfl rfl ?_
        refine o_pure (p_load (i := 1) (v := .slice at_1 t.rest.length ct_1) rfl rfl sh30 rfl) rfl rfl rfl ?_
        refine o_nil ?_
        refine h_next (fun _ hw => HeapIs.drop hw (List.Sublist.cons _ (List.Sublist.cons _ (List.Sublist.cons_cons _ (List.Sublist.slnil))))) ?_
        refine h_one (i := 5) (ls := #[true, true, true, true, true, true, false, false, false, false]) (by kernel_rfl) rfl rfl ?_
        refine o_callM rfl (clone_Int_ok t.rest at_1 ct_1 (by first | assumption | omega | (simp only [List.length_append, List.length_take, List.length_drop, List.length_cons, List.length_nil]; omega))) hf93 (fun w hw => (rd_outer (i := 2) rfl ht_1) w hw) rfl (fun _ _ _ _ ha hA => SlO.agree ha hA) ?_
        rintro ⟨a2_5, c2_5⟩ S2_5
        refine o_know (fun w hw => own_len (i := 0) (T := tInt) hw rfl) (fun hlr2_5 => ?_)
        refine o_nil ?_
        refine h_next (fun _ hw => HeapIs.drop hw (List.Sublist.cons _ (List.Sublist.cons _ (List.Sublist.cons _ (List.Sublist.cons_cons _ (List.Sublist.slnil)))))) ?_
        refine h_take (i := 6) (ls := #[true, true, true, true, true, true, true, false, false, false]) rfl (by kernel_rfl) (by kernel_rfl) (by kernel_rfl) (fun _ _ _ h => h) (p_fieldAddr (B := B1) (j := 0) (j' := 2) rfl fo76_2 rfl) rfl rfl rfl (fun _ hw => HeapIs.drop hw (List.Sublist.cons _ (List.Sublist.cons _ (List.Sublist.cons _ (List.Sublist.cons_cons _ (List.Sublist.slnil)))))) rfl ?_
        refine h_one (i := 7) (ls := #[true, true, true, true, true, true, true, true, false, false]) (by kernel_rfl) rfl rfl ?_
        refine o_store (i := 2) (v := .slice a2_2 t.first.length c2_2) (cs' := [.int .i64 t.near, .int .i64 t.far, .slice a2_2 t.first.length c2_2, .slice at_1 t.rest.length ct_1]) rfl rfl rfl sz30 rfl rfl rfl ?_
        refine o_nil ?_
        refine h_next (fun _ hw => HeapIs.drop hw (List.Sublist.cons _ (List.Sublist.cons _ (List.Sublist.cons _ (List.Sublist.cons_cons _ (List.Sublist.slnil)))))) ?_
        refine h_take (i := 8) (ls := #[true, true, true, true, true, true, true, true, true, false]) rfl (by kernel_rfl) (by kernel_rfl) (by kernel_rfl) (fun _ _ _ h => h) (p_fieldAddr (B := B1) (j := 0) (j' := 3) rfl fo76_3 rfl) rfl rfl rfl (fun _ hw => HeapIs.drop hw (List.Sublist.cons _ (List.Sublist.cons _ (List.Sublist.cons _ (List.Sublist.cons_cons _ (List.Sublist.slnil)))))) rfl ?_
        refine h_one (i := 9) (ls := #[true, true, true, true, true, true, true, true, true, true]) (by kernel_rfl) rfl rfl ?_
        refine o_store (i := 2) (v := .slice a2_5 t.rest.length c2_5) (cs' := [.int .i64 t.near, .int .i64 t.far, .slice a2_2 t.first.length c2_2, .slice a2_5 t.rest.length c2_5]) rfl rfl rfl sz30 rfl rfl rfl ?_
        refine o_nil ?_
        refine h_next (fun _ hw => HeapIs.drop hw (List.Sublist.cons _ (List.Sublist.cons _ (List.Sublist.cons _ (List.Sublist.cons_cons _ (List.Sublist.slnil)))))) ?_
        refine h_done (by kernel_rfl) ?_
        refine q_kont hK3 (S2_2, a2_2, c2_2, S2_5, a2_5, c2_5) (Sub.cons rfl (Sub.nil _)) (fun _ hw => HeapIs.pick hw [0, 1, 2, 3] (by decide) rfl)
      · refine o_pure (p_load (i := 0) (v := .slice at_1 t.rest.length ct_1) rfl rfl sh30 rfl) rfl rfl rfl ?_
        refine o_nil ?_
        refine h_next (fun _ hw => HeapIs.drop hw (List.Sublist.cons _ (List.Sublist.cons_cons _ (List.Sublist.slnil)))) ?_
        refine h_one (i := 2) (ls := #[true, true, true, true, true, false, false, false, false, false]) (by kernel_rfl) rfl rfl ?_
        refine o_callM rfl (clone_Int_ok t.first at_0 ct_0 (by first | assumption | omega | (simp only [List.length_append, List.length_take, List.length_drop, List.length_cons, List.length_nil]; omega))) hf93 (fun w hw => (rd_outer (i := 1) rfl ht_0) w hw) rfl (fun _ _ _ _ ha hA => SlO.agree ha hA) ?_
        rintro ⟨a2_2, c2_2⟩ S2_2
        refine o_know (fun w hw => own_len (i := 0) (T := tInt) hw rfl) (fun hlr2_2 => ?_)
        refine o_nil ?_
        refine h_next (fun _ hw => HeapIs.drop hw (List.Sublist.cons _ (List.Sublist.cons _ (List.Sublist.cons_cons _ (List.Sublist.slnil))))) ?_
        refine h_one (i := 5) (ls := #[true, true, true, true, true, true, false, false, false, false]) (by kernel_rfl) rfl rfl ?_
        refine o_callM rfl (clone_Int_ok t.rest at_1 ct_1 (by first | assumption | omega | (simp only [List.length_append, List.length_take, List.length_drop, List.length_cons, List.length_nil]; omega))) hf93 (fun w hw => (rd_outer (i := 2) rfl ht_1) w hw) rfl (fun _ _ _ _ ha hA => SlO.agree ha hA) ?_
        rintro ⟨a2_5, c2_5⟩ S2_5
        refine o_know (fun w hw => own_len (i := 0) (T := tInt) hw rfl) (fun hlr2_5 => ?_)
        refine o_nil ?_
        refine h_next (fun _ hw => HeapIs.drop hw (List.Sublist.cons _ (List.Sublist.cons _ (List.Sublist.cons _ (List.Sublist.cons_cons _ (List.Sublist.slnil)))))) ?_
        refine h_take (i := 6) (ls := #[true, true, true, true, true, true, true, false, false, false]) rfl (by kernel_rfl) (by kernel_rfl) (by kernel_rfl) (fun _ _ _ h => h) (p_fieldAddr (B := B1) (j := 0) (j' := 2) rfl fo76_2 rfl) rfl rfl rfl (fun _ hw => HeapIs.drop hw (List.Sublist.cons _ (List.Sublist.cons _ (List.Sublist.cons _ (List.Sublist.cons_cons _ (List.Sublist.slnil)))))) rfl ?_
        refine h_one (i := 7) (ls := #[true, true, true, true, true, true, true, true, false, false]) (by kernel_rfl) rfl rfl ?_
        refine o_store (i := 2) (v := .slice a2_2 t.first.length c2_2) (cs' := [.int .i64 t.near, .int .i64 t.far, .slice a2_2 t.first.length c2_2, .slice at_1 t.rest.length ct_1]) rfl rfl rfl sz30 rfl rfl rfl ?_
        refine o_nil ?_
        refine h_next (fun _ hw => HeapIs.drop hw (List.Sublist.cons _ (List.Sublist.cons _ (List.Sublist.cons _ (List.Sublist.cons_cons _ (List.Sublist.slnil)))))) ?_
        refine h_take (i := 8) (ls := #[true, true, true, true, true, true, true, true, true, false]) rfl (by kernel_rfl) (by kernel_rfl) (by kernel_rfl) (fun _ _ _ h => h) (p_fieldAddr (B := B1) (j := 0) (j' := 3) rfl fo76_3 rfl) rfl rfl rfl (fun _ hw => HeapIs.drop hw (List.Sublist.cons _ (List.Sublist.cons _ (List.Sublist.cons _ (List.Sublist.cons_cons _ (List.Sublist.slnil)))))) rfl ?_
        refine h_one (i := 9) (ls := #[true, true, true, true, true, true, true, true, true, true]) (by kernel_rfl) rfl rfl ?_
        refine o_store (i := 2) (v := .slice a2_5 t.rest.length c2_5) (cs' := [.int .i64 t.near, .int .i64 t.far, .slice a2_2 t.first.length c2_2, .slice a2_5 t.rest.length c2_5]) rfl rfl rfl sz30 rfl rfl rfl ?_
        refine o_nil ?_
        refine h_next (fun _ hw => HeapIs.drop hw (List.Sublist.cons _ (List.Sublist.cons _ (List.Sublist.cons _ (List.Sublist.cons_cons _ (List.Sublist.slnil)))))) ?_
        refine h_done (by kernel_rfl) ?_
        refine q_kont hK3 (S2_2, a2_2, c2_2, S2_5, a2_5, c2_5) (Sub.cons rfl (Sub.nil _)) (fun _ hw => HeapIs.pick hw [0, 1, 2, 3] (by decide) rfl)
    · refine o_pure (p_load (i := 0) (v := .slice at_1 t.rest.length ct_1) rfl rfl sh30 rfl) rfl rfl rfl ?_
      refine o_nil ?_
      refine h_next (fun _ hw => HeapIs.drop hw (List.Sublist.cons _ (List.Sublist.cons_cons _ (List.Sublist.slnil)))) ?_
      refine h_one (i := 1) (ls := #[true, true, false, true, true, false, false, false, false, false]) (by kernel_rfl) rfl rfl ?_
      refine o_pure (p_load (i := 0) (v := .slice at_0 t.first.length ct_0) rfl rfl sh30 rfl) rfl rfl rfl ?_
      refine o_nil ?_
      refine h_next (fun _ hw => HeapIs.drop hw (List.Sublist.cons _ (List.Sublist.cons_cons _ (List.Sublist.slnil)))) ?_
      refine h_one (i := 2) (ls := #[true, true, true, true, true, false, false, false, false, false]) (by kernel_rfl) rfl rfl ?_
      refine o_callM rfl (clone_Int_ok t.first at_0 ct_0 (by first | assumption | omega | (simp only [List.length_append, List.length_take, List.length_drop, List.length_cons, List.length_nil]; omega))) hf93 (fun w hw => (rd_outer (i := 1) rfl ht_0) w hw) rfl (fun _ _ _ _ ha hA => SlO.agree ha hA) ?_
      rintro ⟨a2_2, c2_2⟩ S2_2
      refine o_know (fun w hw => own_len (i := 0) (T := tInt) hw rfl) (fun hlr2_2 => ?_)
      refine o_nil ?_
      refine h_next (fun _ hw => HeapIs.drop hw (List.Sublist.cons _ (List.Sublist.cons _ (List.Sublist.cons_cons _ (List.Sublist.slnil))))) ?_
      refine h_one (i := 5) (ls := #[true, true, true, true, true, true, false, false, false, false]) (by kernel_rfl) rfl rfl ?_
      refine o_callM rfl (clone_Int_ok t.rest at_1 ct_1 (by first | assumption | omega | (simp only [List.length_append, List.length_take, List.length_drop, List.length_cons, List.length_nil]; omega))) hf93 (fun w hw => (rd_outer (i := 2) rfl ht_1) w hw) rfl (fun _ _ _ _ ha hA => SlO.agree ha hA) ?_
      rintro ⟨a2_5, c2_5⟩ S2_5
      refine o_know (fun w hw => own_len (i := 0) (T := tInt) hw rfl) (fun hlr2_5 => ?_)
      refine o_nil ?_
      refine h_next (fun _ hw => HeapIs.drop hw (List.Sublist.cons _ (List.Sublist.cons _ (List.Sublist.cons _ (List.Sublist.cons_cons _ (List.Sublist.slnil)))))) ?_
      refine h_take (i := 6) (ls := #[true, true, true, true, true, true, true, false, false, false]) rfl (by kernel_rfl) (by kernel_rfl) (by kernel_rfl) (fun _ _ _ h => h) (p_fieldAddr (B := B1) (j := 0) (j' := 2) rfl fo76_2 rfl) rfl rfl rfl (fun _ hw => HeapIs.drop hw (List.Sublist.cons _ (List.Sublist.cons _ (List.Sublist.cons _ (List.Sublist.cons_cons _ (List.Sublist.slnil)))))) rfl ?_
      refine h_one (i := 7) (ls := #[true, true, true, true, true, true, true, true, false, false]) (by kernel_rfl) rfl rfl ?_
      refine o_store (i := 2) (v := .slice a2_2 t.first.length c2_2) (cs' := [.int .i64 t.near, .int .i64 t.far, .slice a2_2 t.first.length c2_2, .slice at_1 t.rest.length ct_1]) rfl rfl rfl sz30 rfl rfl rfl ?_
      refine o_nil ?_
      refine h_next (fun _ hw => HeapIs.drop hw (List.Sublist.cons _ (List.Sublist.cons _ (List.Sublist.cons _ (List.Sublist.cons_cons _ (List.Sublist.slnil)))))) ?_
      refine h_take (i := 8) (ls := #[true, true, true, true, true, true, true, true, true, false]) rfl (by kernel_rfl) (by kernel_rfl) (by kernel_rfl) (fun _ _ _ h => h) (p_fieldAddr (B := B1) (j := 0) (j' := 3) rfl fo76_3 rfl) rfl rfl rfl (fun _ hw => HeapIs.drop hw (List.Sublist.cons _ (List.Sublist.cons _ (List.Sublist.cons _ (List.Sublist.cons_cons _ (List.Sublist.slnil)))))) rfl ?_
      refine h_one (i := 9) (ls := #[true, true, true, true, true, true, true, true, true, true]) (by kernel_rfl) rfl rfl ?_
      refine o_store (i := 2) (v := .slice a2_5 t.rest.length c2_5) (cs' := [.int .i64 t.near, .int .i64 t.far, .slice a2_2 t.first.length c2_2, .slice a2_5 t.rest.length c2_5]) rfl rfl rfl sz30 rfl rfl rfl ?_
      refine o_nil ?_
      refine h_next (fun _ hw => HeapIs.drop hw (List.Sublist.cons _ (List.Sublist.cons _ (List.Sublist.cons _ (List.Sublist.cons_cons _ (List.Sublist.slnil)))))) ?_
      refine h_done (by kernel_rfl) ?_
      refine q_kont hK3 (S2_2, a2_2, c2_2, S2_5, a2_5, c2_5) (Sub.cons rfl (Sub.nil _)) (fun _ hw => HeapIs.pick hw [0, 1, 2, 3] (by decide) rfl)
  rintro ⟨S2_2, a2_2, c2_2, S2_5, a2_5, c2_5⟩
  show SQ _ 11 w0 _ _ [(1, .pointer (some ⟨B1, 0, none⟩))] [own tInt S2_5 a2_5 c2_5 t.rest, own tInt S2_2 a2_2 c2_2 t.first, box B1 [.int .i64 t.near, .int .i64 t.far, .slice a2_2 t.first.length c2_2, .slice a2_5 t.rest.length c2_5] 76, outer w0 []]
  refine q_know (fun w hw => own_len (i := 1) (T := tInt) hw rfl) (fun hlr4 => ?_)
  refine q_know (fun w hw => own_len (i := 0) (T := tInt) hw rfl) (fun hlr5 => ?_)
  refine q_then ?_
  refine c_seq ?_
  refine c_region ?_
  refine o_pure (p_assign (v := .pointer (some ⟨B1, 0, none⟩)) rfl) rfl rfl rfl ?_
  refine o_nil ?_
  refine q_then ?_
  refine c_ret ?_
  refine q_endX (p := (B1, a2_2, c2_2, S2_2, a2_5, c2_5, S2_5)) (rt1 rfl (r_tmp rfl)) ?_ (fun w hw => ?_)
  · exact rfl
  · have h2 := hw.pick (H' := [outer w0 [], box B1 [.int .i64 t.near, .int .i64 t.far, .slice a2_2 t.first.length c2_2, .slice a2_5 t.rest.length c2_5] 76, own tInt S2_2 a2_2 c2_2 t.first, own tInt S2_5 a2_5 c2_5 t.rest]) [3, 2, 1, 0] (by decide) rfl
    exact Eq.mp (congrArg (fun z => HeapIs w0 ((outer w0 []) :: z) w) (rfl)) h2
end Go.Proofs.Ytkndekkacimekaa
