/- The walks, printed by a program from the translation and a specification. -/
import Derived.Test.YtkndekkacimekaaTdF
import Derived.Test.YtkndekkacimekaaTdLaw
import Derived.Test.YtkndekkacimekaaTdW6
namespace Go.Proofs.Ytkndekkacimekaa
open Go.Sx Go.RowKit
set_option maxHeartbeats 8000000 in
set_option maxRecDepth 100000 in
theorem ttouch_ok (t : DTiers) (Bt : Nat) (at_0 : Option Addr) (ct_0 : Nat) (St_0 : Nat → Prop) (at_1 : Option Addr) (ct_1 : Nat) (St_1 : Nat → Prop) (key : Int) (hy1 : Tier.Ok t) : FnX Try.prog 75 [.pointer (some ⟨Bt, 0, none⟩), .int .i64 key] [box Bt [.int .i64 t.near, .int .i64 t.far, .slice at_0 t.first.length ct_0, .slice at_1 t.rest.length ct_1] 76, own tInt St_0 at_0 ct_0 t.first, own tInt St_1 at_1 ct_1 t.rest] (fun _ => True) (Option Addr × Nat × (Nat → Prop) × Option Addr × Nat × (Nat → Prop)) (fun p => .tuple #[.int .i64 (Tier.place t key), .int .i64 (Tier.gone t key)]) (fun p => [box Bt [.int .i64 (((Tier.touch t key).1).near), .int .i64 (((Tier.touch t key).1).far), .slice p.1 (((Tier.touch t key).1).first).length p.2.1, .slice p.2.2.2.1 (((Tier.touch t key).1).rest).length p.2.2.2.2.1] 76, own tInt p.2.2.1 p.1 p.2.1 (((Tier.touch t key).1).first), own tInt p.2.2.2.2.2 p.2.2.2.1 p.2.2.2.2.1 (((Tier.touch t key).1).rest)]) := by
  refine fnX (nt := 75) (F0 := [(0, .pointer (some ⟨Bt, 0, none⟩)), (1, .int .i64 key)]) Try.func75 rfl Try.ntmps75 rfl rfl (fun w0 hpre => ?_)
  refine c_know (fun w hw => own_len (i := 2) (T := tInt) hw rfl) (fun hlown_t_0 => ?_)
  obtain ⟨hcown_t_0, hlown_t_0⟩ := hlown_t_0
  refine c_know (fun w hw => own_len (i := 3) (T := tInt) hw rfl) (fun hlown_t_1 => ?_)
  obtain ⟨hcown_t_1, hlown_t_1⟩ := hlown_t_1
  have hnr := hy1.near
  have hfr := hy1.far
  have hl1 := hy1.len1
  have hl2 := hy1.len2
  have he1 := List.length_erase_le (a := key) (l := t.first)
  have he2 := List.length_erase_le (a := key) (l := t.rest)
  have hdd : Tier.down t key = Tier.over (t.first.erase key) key t.near := rfl
  obtain ⟨hp1, hp2, hp0⟩ := Tier.place_p (t := t) (key := key)
  refine c_seq ?_
  refine c_region ?_
  refine o_pure (p_assign (v := .int .i64 0) rfl) rfl rfl rfl ?_
  refine o_pure (p_assign (v := .int .i64 0) rfl) rfl rfl rfl ?_
  refine o_nil ?_
  refine q_then ?_
  refine c_seq ?_
  refine c_region ?_
  refine o_pure (p_assign (v := .bool false) rfl) rfl rfl rfl ?_
  refine o_pure (p_assign (v := .bool false) rfl) rfl rfl rfl ?_
  refine o_nil ?_
  refine q_then ?_
  refine c_seq ?_
  refine c_region ?_
  refine o_pure (p_move (v := .pointer (some ⟨Bt, 0, none⟩)) rfl) rfl rfl rfl ?_
  refine o_pure (p_move (v := .pointer (some ⟨Bt, 0, none⟩)) rfl) rfl rfl rfl ?_
  refine o_pure (p_nilCheck rfl) rfl rfl rfl ?_
  refine o_pure (p_fieldAddr (B := Bt) (j := 0) (j' := 2) rfl fo76_2 rfl) rfl rfl rfl ?_
  refine o_pure (p_load (i := 1) (v := .slice at_0 t.first.length ct_0) rfl rfl sh30 rfl) rfl rfl rfl ?_
  refine o_pure (p_move (v := .int .i64 key) rfl) rfl rfl rfl ?_
  refine o_pick (H' := [own tInt St_0 at_0 ct_0 t.first, outer w0 [box Bt [.int .i64 t.near, .int .i64 t.far, .slice at_0 t.first.length ct_0, .slice at_1 t.rest.length ct_1] 76, own tInt St_0 at_0 ct_0 t.first, own tInt St_1 at_1 ct_1 t.rest], box Bt [.int .i64 t.near, .int .i64 t.far, .slice at_0 t.first.length ct_0, .slice at_1 t.rest.length ct_1] 76, own tInt St_1 at_1 ct_1 t.rest]) [2, 0, 1, 3] (by decide) rfl ?_
  refine o_callX (pre := [own tInt St_0 at_0 ct_0 t.first]) (R := [outer w0 [box Bt [.int .i64 t.near, .int .i64 t.far, .slice at_0 t.first.length ct_0, .slice at_1 t.rest.length ct_1] 76, own tInt St_0 at_0 ct_0 t.first, own tInt St_1 at_1 ct_1 t.rest], box Bt [.int .i64 t.near, .int .i64 t.far, .slice at_0 t.first.length ct_0, .slice at_1 t.rest.length ct_1] 76, own tInt St_1 at_1 ct_1 t.rest]) rfl (twithout_ok t.first at_0 ct_0 St_0 key) hf98 rfl (fun _ _ => trivial) rfl ?_
  rintro ⟨a1, c2, S3⟩
  refine o_asH (H' := [own tInt S3 a1 c2 (t.first.erase key), outer w0 [box Bt [.int .i64 t.near, .int .i64 t.far, .slice at_0 t.first.length ct_0, .slice at_1 t.rest.length ct_1] 76, own tInt St_0 at_0 ct_0 t.first, own tInt St_1 at_1 ct_1 t.rest], box Bt [.int .i64 t.near, .int .i64 t.far, .slice at_0 t.first.length ct_0, .slice at_1 t.rest.length ct_1] 76, own tInt St_1 at_1 ct_1 t.rest]) rfl ?_
  refine o_pure (p_move (v := .tuple #[.slice a1 (t.first.erase key).length c2, .bool (decide (key ∈ t.first))]) rfl) rfl rfl rfl ?_
  refine o_pure (p_extract (vs := [.slice a1 (t.first.erase key).length c2, .bool (decide (key ∈ t.first))]) (v := .slice a1 (t.first.erase key).length c2) rfl rfl) rfl rfl rfl ?_
  refine o_pure (p_extract (vs := [.slice a1 (t.first.erase key).length c2, .bool (decide (key ∈ t.first))]) (v := .bool (decide (key ∈ t.first))) rfl rfl) rfl rfl rfl ?_
  refine o_pure (p_nilCheck rfl) rfl rfl rfl ?_
  refine o_pure (p_fieldAddr (B := Bt) (j := 0) (j' := 2) rfl fo76_2 rfl) rfl rfl rfl ?_
  refine o_store (i := 2) (v := .slice a1 (t.first.erase key).length c2) (cs' := [.int .i64 t.near, .int .i64 t.far, .slice a1 (t.first.erase key).length c2, .slice at_1 t.rest.length ct_1]) rfl rfl rfl sz30 rfl rfl rfl ?_
  refine o_pure (p_assign (v := .bool (decide (key ∈ t.first))) rfl) rfl rfl rfl ?_
  refine o_nil ?_
  refine q_then ?_
  refine c_seq ?_
  refine c_region ?_
  refine o_pure (p_move (v := .pointer (some ⟨Bt, 0, none⟩)) rfl) rfl rfl rfl ?_
  refine o_pure (p_move (v := .pointer (some ⟨Bt, 0, none⟩)) rfl) rfl rfl rfl ?_
  refine o_pure (p_nilCheck rfl) rfl rfl rfl ?_
  refine o_pure (p_fieldAddr (B := Bt) (j := 0) (j' := 3) rfl fo76_3 rfl) rfl rfl rfl ?_
  refine o_pure (p_load (i := 2) (v := .slice at_1 t.rest.length ct_1) rfl rfl sh30 rfl) rfl rfl rfl ?_
  refine o_pure (p_move (v := .int .i64 key) rfl) rfl rfl rfl ?_
  refine o_pick (H' := [own tInt St_1 at_1 ct_1 t.rest, own tInt S3 a1 c2 (t.first.erase key), outer w0 [box Bt [.int .i64 t.near, .int .i64 t.far, .slice at_0 t.first.length ct_0, .slice at_1 t.rest.length ct_1] 76, own tInt St_0 at_0 ct_0 t.first, own tInt St_1 at_1 ct_1 t.rest], box Bt [.int .i64 t.near, .int .i64 t.far, .slice a1 (t.first.erase key).length c2, .slice at_1 t.rest.length ct_1] 76]) [3, 0, 1, 2] (by decide) rfl ?_
  refine o_callX (pre := [own tInt St_1 at_1 ct_1 t.rest]) (R := [own tInt S3 a1 c2 (t.first.erase key), outer w0 [box Bt [.int .i64 t.near, .int .i64 t.far, .slice at_0 t.first.length ct_0, .slice at_1 t.rest.length ct_1] 76, own tInt St_0 at_0 ct_0 t.first, own tInt St_1 at_1 ct_1 t.rest], box Bt [.int .i64 t.near, .int .i64 t.far, .slice a1 (t.first.erase key).length c2, .slice at_1 t.rest.length ct_1] 76]) rfl (twithout_ok t.rest at_1 ct_1 St_1 key) hf98 rfl (fun _ _ => trivial) rfl ?_
  rintro ⟨a5, c6, S7⟩
  refine o_asH (H' := [own tInt S7 a5 c6 (t.rest.erase key), own tInt S3 a1 c2 (t.first.erase key), outer w0 [box Bt [.int .i64 t.near, .int .i64 t.far, .slice at_0 t.first.length ct_0, .slice at_1 t.rest.length ct_1] 76, own tInt St_0 at_0 ct_0 t.first, own tInt St_1 at_1 ct_1 t.rest], box Bt [.int .i64 t.near, .int .i64 t.far, .slice a1 (t.first.erase key).length c2, .slice at_1 t.rest.length ct_1] 76]) rfl ?_
  refine o_pure (p_move (v := .tuple #[.slice a5 (t.rest.erase key).length c6, .bool (decide (key ∈ t.rest))]) rfl) rfl rfl rfl ?_
  refine o_pure (p_extract (vs := [.slice a5 (t.rest.erase key).length c6, .bool (decide (key ∈ t.rest))]) (v := .slice a5 (t.rest.erase key).length c6) rfl rfl) rfl rfl rfl ?_
  refine o_pure (p_extract (vs := [.slice a5 (t.rest.erase key).length c6, .bool (decide (key ∈ t.rest))]) (v := .bool (decide (key ∈ t.rest))) rfl rfl) rfl rfl rfl ?_
  refine o_pure (p_nilCheck rfl) rfl rfl rfl ?_
  refine o_pure (p_fieldAddr (B := Bt) (j := 0) (j' := 3) rfl fo76_3 rfl) rfl rfl rfl ?_
  refine o_store (i := 3) (v := .slice a5 (t.rest.erase key).length c6) (cs' := [.int .i64 t.near, .int .i64 t.far, .slice a1 (t.first.erase key).length c2, .slice a5 (t.rest.erase key).length c6]) rfl rfl rfl sz30 rfl rfl rfl ?_
  refine o_pure (p_assign (v := .bool (decide (key ∈ t.rest))) rfl) rfl rfl rfl ?_
  refine o_nil ?_
  refine q_then ?_
  refine c_seq ?_
  refine c_region ?_
  refine o_pure (p_assign (v := .int .i64 (-1)) rfl) rfl rfl rfl ?_
  refine o_pure (p_assign (v := .int .i64 (-1)) rfl) rfl rfl rfl ?_
  refine o_nil ?_
  refine q_then ?_
  refine c_seq ?_
  refine c_seq ?_
  refine c_cut (G := Option Addr × Nat × (Nat → Prop)) (fun ⟨a9_10, c9_10, S9_10⟩ => [(0, .pointer (some ⟨Bt, 0, none⟩)), (6, .bool (decide (key ∈ t.first))), (7, .bool (decide (key ∈ t.rest))), (8, .int .i64 (Tier.over (t.first.erase key) key t.near)), (9, .int .i64 (-1))]) (fun ⟨a9_10, c9_10, S9_10⟩ => [own tInt S9_10 a9_10 c9_10 (Tier.push (t.first.erase key) key t.near), own tInt S7 a5 c6 (t.rest.erase key), outer w0 [box Bt [.int .i64 t.near, .int .i64 t.far, .slice at_0 t.first.length ct_0, .slice at_1 t.rest.length ct_1] 76, own tInt St_0 at_0 ct_0 t.first, own tInt St_1 at_1 ct_1 t.rest], box Bt [.int .i64 t.near, .int .i64 t.far, .slice a9_10 (Tier.push (t.first.erase key) key t.near).length c9_10, .slice a5 (t.rest.erase key).length c6] 76]) (fun K hK10 => ?_) ?_
  · refine c_held hmix [own tInt S7 a5 c6 (t.rest.erase key), outer w0 [box Bt [.int .i64 t.near, .int .i64 t.far, .slice at_0 t.first.length ct_0, .slice at_1 t.rest.length ct_1] 76, own tInt St_0 at_0 ct_0 t.first, own tInt St_1 at_1 ct_1 t.rest]] rfl rfl ?_
    refine h_take (i := 0) (ls := #[true, false, false, false, false, false, false, false, false, false, false, false, false, false, false, false, false, false]) rfl (by kernel_rfl) (by kernel_rfl) (by kernel_rfl) (fun _ _ _ h => h) (p_move (v := .pointer (some ⟨Bt, 0, none⟩)) rfl) rfl rfl rfl (fun _ hw => HeapIs.drop hw (List.Sublist.cons_cons _ (List.Sublist.cons _ (List.Sublist.cons_cons _ (List.Sublist.cons _ (List.Sublist.slnil)))))) rfl ?_
    refine h_take (i := 1) (ls := #[true, true, false, false, false, false, false, false, false, false, false, false, false, false, false, false, false, false]) rfl (by kernel_rfl) (by kernel_rfl) (by kernel_rfl) (fun _ _ _ h => h) (p_move (v := .pointer (some ⟨Bt, 0, none⟩)) rfl) rfl rfl rfl (fun _ hw => HeapIs.drop hw (List.Sublist.cons_cons _ (List.Sublist.cons _ (List.Sublist.cons_cons _ (List.Sublist.cons _ (List.Sublist.slnil)))))) rfl ?_
    refine h_take (i := 2) (ls := #[true, true, true, false, false, false, false, false, false, false, false, false, false, false, false, false, false, false]) rfl (by kernel_rfl) (by kernel_rfl) (by kernel_rfl) (fun _ _ _ h => h) (p_nilCheck rfl) rfl rfl rfl (fun _ hw => HeapIs.drop hw (List.Sublist.cons_cons _ (List.Sublist.cons _ (List.Sublist.cons_cons _ (List.Sublist.cons _ (List.Sublist.slnil)))))) rfl ?_
    refine h_take (i := 3) (ls := #[true, true, true, true, false, false, false, false, false, false, false, false, false, false, false, false, false, false]) rfl (by kernel_rfl) (by kernel_rfl) (by kernel_rfl) (fun _ _ _ h => h) (p_fieldAddr (B := Bt) (j := 0) (j' := 2) rfl fo76_2 rfl) rfl rfl rfl (fun _ hw => HeapIs.drop hw (List.Sublist.cons_cons _ (List.Sublist.cons _ (List.Sublist.cons_cons _ (List.Sublist.cons _ (List.Sublist.slnil)))))) rfl ?_
    refine h_take (i := 5) (ls := #[true, true, true, true, false, true, false, false, false, false, false, false, false, false, false, false, false, false]) rfl (by kernel_rfl) (by kernel_rfl) (by kernel_rfl) (fun _ _ _ h => h) (p_move (v := .int .i64 key) rfl) rfl rfl rfl (fun _ hw => HeapIs.drop hw (List.Sublist.cons_cons _ (List.Sublist.cons _ (List.Sublist.cons_cons _ (List.Sublist.cons _ (List.Sublist.slnil)))))) rfl ?_
    refine h_take (i := 6) (ls := #[true, true, true, true, false, true, true, false, false, false, false, false, false, false, false, false, false, false]) rfl (by kernel_rfl) (by kernel_rfl) (by kernel_rfl) (fun _ _ _ h => h) (p_move (v := .pointer (some ⟨Bt, 0, none⟩)) rfl) rfl rfl rfl (fun _ hw => HeapIs.drop hw (List.Sublist.cons_cons _ (List.Sublist.cons _ (List.Sublist.cons_cons _ (List.Sublist.cons _ (List.Sublist.slnil)))))) rfl ?_
    refine h_take (i := 7) (ls := #[true, true, true, true, false, true, true, true, false, false, false, false, false, false, false, false, false, false]) rfl (by kernel_rfl) (by kernel_rfl) (by kernel_rfl) (fun _ _ _ h => h) (p_nilCheck rfl) rfl rfl rfl (fun _ hw => HeapIs.drop hw (List.Sublist.cons_cons _ (List.Sublist.cons _ (List.Sublist.cons_cons _ (List.Sublist.cons _ (List.Sublist.slnil)))))) rfl ?_
    refine h_take (i := 8) (ls := #[true, true, true, true, false, true, true, true, true, false, false, false, false, false, false, false, false, false]) rfl (by kernel_rfl) (by kernel_rfl) (by kernel_rfl) (fun _ _ _ h => h) (p_fieldAddr (B := Bt) (j := 0) (j' := 0) rfl fo76_0 rfl) rfl rfl rfl (fun _ hw => HeapIs.drop hw (List.Sublist.cons_cons _ (List.Sublist.cons _ (List.Sublist.cons_cons _ (List.Sublist.cons _ (List.Sublist.slnil)))))) rfl ?_
    refine h_two (i := 4) (j := 9) (ls := #[true, true, true, true, true, true, true, true, true, false, false, false, false, false, false, false, false, false]) (ls' := #[true, true, true, true, false, true, true, true, true, true, false, false, false, false, false, false, false, false]) (by kernel_rfl) rfl rfl rfl rfl ?_ ?_
    · refine o_pure (p_load (i := 3) (v := .slice a1 (t.first.erase key).length c2) rfl rfl sh30 rfl) rfl rfl rfl ?_
      refine o_nil ?_
      refine h_next (fun _ hw => HeapIs.drop hw (List.Sublist.cons_cons _ (List.Sublist.cons _ (List.Sublist.cons_cons _ (List.Sublist.cons _ (List.Sublist.slnil)))))) ?_
      refine h_one (i := 9) (ls := #[true, true, true, true, true, true, true, true, true, true, false, false, false, false, false, false, false, false]) (by kernel_rfl) rfl rfl ?_
      refine o_pure (p_load (i := 3) (v := .int .i64 t.near) rfl rfl sh3 rfl) rfl rfl rfl ?_
      refine o_nil ?_
      refine h_next (fun _ hw => HeapIs.drop hw (List.Sublist.cons_cons _ (List.Sublist.cons _ (List.Sublist.cons_cons _ (List.Sublist.cons _ (List.Sublist.slnil)))))) ?_
      refine h_one (i := 10) (ls := #[true, true, true, true, true, true, true, true, true, true, true, false, false, false, false, false, false, false]) (by kernel_rfl) rfl rfl ?_
      refine o_pick (H' := [own tInt S3 a1 c2 (t.first.erase key), own tInt S7 a5 c6 (t.rest.erase key), outer w0 [box Bt [.int .i64 t.near, .int .i64 t.far, .slice at_0 t.first.length ct_0, .slice at_1 t.rest.length ct_1] 76, own tInt St_0 at_0 ct_0 t.first, own tInt St_1 at_1 ct_1 t.rest], box Bt [.int .i64 t.near, .int .i64 t.far, .slice a1 (t.first.erase key).length c2, .slice a5 (t.rest.erase key).length c6] 76]) [1, 0, 2, 3] (by decide) rfl ?_
      refine o_callX (pre := [own tInt S3 a1 c2 (t.first.erase key)]) (R := [own tInt S7 a5 c6 (t.rest.erase key), outer w0 [box Bt [.int .i64 t.near, .int .i64 t.far, .slice at_0 t.first.length ct_0, .slice at_1 t.rest.length ct_1] 76, own tInt St_0 at_0 ct_0 t.first, own tInt St_1 at_1 ct_1 t.rest], box Bt [.int .i64 t.near, .int .i64 t.far, .slice a1 (t.first.erase key).length c2, .slice a5 (t.rest.erase key).length c6] 76]) rfl (tpushed_ok (t.first.erase key) a1 c2 S3 key t.near (by first | assumption | omega)) hf99 rfl (fun _ _ => trivial) rfl ?_
      rintro ⟨a9_10, c9_10, S9_10⟩
      refine o_asH (H' := [own tInt S9_10 a9_10 c9_10 (Tier.push (t.first.erase key) key t.near), own tInt S7 a5 c6 (t.rest.erase key), outer w0 [box Bt [.int .i64 t.near, .int .i64 t.far, .slice at_0 t.first.length ct_0, .slice at_1 t.rest.length ct_1] 76, own tInt St_0 at_0 ct_0 t.first, own tInt St_1 at_1 ct_1 t.rest], box Bt [.int .i64 t.near, .int .i64 t.far, .slice a1 (t.first.erase key).length c2, .slice a5 (t.rest.erase key).length c6] 76]) rfl ?_
      refine o_nil ?_
      refine h_next (fun _ hw => HeapIs.drop hw (List.Sublist.cons _ (List.Sublist.cons_cons _ (List.Sublist.cons_cons _ (List.Sublist.cons _ (List.Sublist.slnil)))))) ?_
      refine h_take (i := 11) (ls := #[true, true, true, true, true, true, true, true, true, true, true, true, false, false, false, false, false, false]) rfl (by kernel_rfl) (by kernel_rfl) (by kernel_rfl) (fun _ _ _ h => h) (p_move (v := .tuple #[.slice a9_10 (Tier.push (t.first.erase key) key t.near).length c9_10, .int .i64 (Tier.over (t.first.erase key) key t.near)]) rfl) rfl rfl rfl (fun _ hw => HeapIs.drop hw (List.Sublist.cons _ (List.Sublist.cons_cons _ (List.Sublist.cons_cons _ (List.Sublist.cons _ (List.Sublist.slnil)))))) rfl ?_
      refine h_take (i := 12) (ls := #[true, true, true, true, true, true, true, true, true, true, true, true, true, false, false, false, false, false]) rfl (by kernel_rfl) (by kernel_rfl) (by kernel_rfl) (fun _ _ _ h => h) (p_extract (vs := [.slice a9_10 (Tier.push (t.first.erase key) key t.near).length c9_10, .int .i64 (Tier.over (t.first.erase key) key t.near)]) (v := .slice a9_10 (Tier.push (t.first.erase key) key t.near).length c9_10) rfl rfl) rfl rfl rfl (fun _ hw => HeapIs.drop hw (List.Sublist.cons _ (List.Sublist.cons_cons _ (List.Sublist.cons_cons _ (List.Sublist.cons _ (List.Sublist.slnil)))))) rfl ?_
      refine h_take (i := 13) (ls := #[true, true, true, true, true, true, true, true, true, true, true, true, true, true, false, false, false, false]) rfl (by kernel_rfl) (by kernel_rfl) (by kernel_rfl) (fun _ _ _ h => h) (p_extract (vs := [.slice a9_10 (Tier.push (t.first.erase key) key t.near).length c9_10, .int .i64 (Tier.over (t.first.erase key) key t.near)]) (v := .int .i64 (Tier.over (t.first.erase key) key t.near)) rfl rfl) rfl rfl rfl (fun _ hw => HeapIs.drop hw (List.Sublist.cons _ (List.Sublist.cons_cons _ (List.Sublist.cons_cons _ (List.Sublist.cons _ (List.Sublist.slnil)))))) rfl ?_
      refine h_take (i := 14) (ls := #[true, true, true, true, true, true, true, true, true, true, true, true, true, true, true, false, false, false]) rfl (by kernel_rfl) (by kernel_rfl) (by kernel_rfl) (fun _ _ _ h => h) (p_nilCheck rfl) rfl rfl rfl (fun _ hw => HeapIs.drop hw (List.Sublist.cons _ (List.Sublist.cons_cons _ (List.Sublist.cons_cons _ (List.Sublist.cons _ (List.Sublist.slnil)))))) rfl ?_
      refine h_take (i := 15) (ls := #[true, true, true, true, true, true, true, true, true, true, true, true, true, true, true, true, false, false]) rfl (by kernel_rfl) (by kernel_rfl) (by kernel_rfl) (fun _ _ _ h => h) (p_fieldAddr (B := Bt) (j := 0) (j' := 2) rfl fo76_2 rfl) rfl rfl rfl (fun _ hw => HeapIs.drop hw (List.Sublist.cons _ (List.Sublist.cons_cons _ (List.Sublist.cons_cons _ (List.Sublist.cons _ (List.Sublist.slnil)))))) rfl ?_
      refine h_one (i := 16) (ls := #[true, true, true, true, true, true, true, true, true, true, true, true, true, true, true, true, true, false]) (by kernel_rfl) rfl rfl ?_
      refine o_store (i := 3) (v := .slice a9_10 (Tier.push (t.first.erase key) key t.near).length c9_10) (cs' := [.int .i64 t.near, .int .i64 t.far, .slice a9_10 (Tier.push (t.first.erase key) key t.near).length c9_10, .slice a5 (t.rest.erase key).length c6]) rfl rfl rfl sz30 rfl rfl rfl ?_
      refine o_nil ?_
      refine h_next (fun _ hw => HeapIs.drop hw (List.Sublist.cons _ (List.Sublist.cons_cons _ (List.Sublist.cons_cons _ (List.Sublist.cons _ (List.Sublist.slnil)))))) ?_
      refine h_take (i := 17) (ls := #[true, true, true, true, true, true, true, true, true, true, true, true, true, true, true, true, true, true]) rfl (by kernel_rfl) (by kernel_rfl) (by kernel_rfl) (fun _ _ _ h => h) (p_assign (v := .int .i64 (Tier.over (t.first.erase key) key t.near)) rfl) rfl rfl rfl (fun _ hw => HeapIs.drop hw (List.Sublist.cons _ (List.Sublist.cons_cons _ (List.Sublist.cons_cons _ (List.Sublist.cons _ (List.Sublist.slnil)))))) rfl ?_
      refine h_done (by kernel_rfl) ?_
      refine q_kont hK10 (a9_10, c9_10, S9_10) (Sub.cons rfl (Sub.cons rfl (Sub.cons rfl (Sub.cons rfl (Sub.cons rfl (Sub.nil _)))))) (fun _ hw => HeapIs.pick hw [0, 1, 2, 3] (by decide) rfl)
    · refine o_pure (p_load (i := 3) (v := .int .i64 t.near) rfl rfl sh3 rfl) rfl rfl rfl ?_
      refine o_nil ?_
      refine h_next (fun _ hw => HeapIs.drop hw (List.Sublist.cons_cons _ (List.Sublist.cons _ (List.Sublist.cons_cons _ (List.Sublist.cons _ (List.Sublist.slnil)))))) ?_
      refine h_one (i := 4) (ls := #[true, true, true, true, true, true, true, true, true, true, false, false, false, false, false, false, false, false]) (by kernel_rfl) rfl rfl ?_
      refine o_pure (p_load (i := 3) (v := .slice a1 (t.first.erase key).length c2) rfl rfl sh30 rfl) rfl rfl rfl ?_
      refine o_nil ?_
      refine h_next (fun _ hw => HeapIs.drop hw (List.Sublist.cons_cons _ (List.Sublist.cons _ (List.Sublist.cons_cons _ (List.Sublist.cons _ (List.Sublist.slnil)))))) ?_
      refine h_one (i := 10) (ls := #[true, true, true, true, true, true, true, true, true, true, true, false, false, false, false, false, false, false]) (by kernel_rfl) rfl rfl ?_
      refine o_pick (H' := [own tInt S3 a1 c2 (t.first.erase key), own tInt S7 a5 c6 (t.rest.erase key), outer w0 [box Bt [.int .i64 t.near, .int .i64 t.far, .slice at_0 t.first.length ct_0, .slice at_1 t.rest.length ct_1] 76, own tInt St_0 at_0 ct_0 t.first, own tInt St_1 at_1 ct_1 t.rest], box Bt [.int .i64 t.near, .int .i64 t.far, .slice a1 (t.first.erase key).length c2, .slice a5 (t.rest.erase key).length c6] 76]) [1, 0, 2, 3] (by decide) rfl ?_
      refine o_callX (pre := [own tInt S3 a1 c2 (t.first.erase key)]) (R := [own tInt S7 a5 c6 (t.rest.erase key), outer w0 [box Bt [.int .i64 t.near, .int .i64 t.far, .slice at_0 t.first.length ct_0, .slice at_1 t.rest.length ct_1] 76, own tInt St_0 at_0 ct_0 t.first, own tInt St_1 at_1 ct_1 t.rest], box Bt [.int .i64 t.near, .int .i64 t.far, .slice a1 (t.first.erase key).length c2, .slice a5 (t.rest.erase key).length c6] 76]) rfl (tpushed_ok (t.first.erase key) a1 c2 S3 key t.near (by first | assumption | omega)) hf99 rfl (fun _ _ => trivial) rfl ?_
      rintro ⟨a9_10, c9_10, S9_10⟩
      refine o_asH (H' := [own tInt S9_10 a9_10 c9_10 (Tier.push (t.first.erase key) key t.near), own tInt S7 a5 c6 (t.rest.erase key), outer w0 [box Bt [.int .i64 t.near, .int .i64 t.far, .slice at_0 t.first.length ct_0, .slice at_1 t.rest.length ct_1] 76, own tInt St_0 at_0 ct_0 t.first, own tInt St_1 at_1 ct_1 t.rest], box Bt [.int .i64 t.near, .int .i64 t.far, .slice a1 (t.first.erase key).length c2, .slice a5 (t.rest.erase key).length c6] 76]) rfl ?_
      refine o_nil ?_
      refine h_next (fun _ hw => HeapIs.drop hw (List.Sublist.cons _ (List.Sublist.cons_cons _ (List.Sublist.cons_cons _ (List.Sublist.cons _ (List.Sublist.slnil)))))) ?_
      refine h_take (i := 11) (ls := #[true, true, true, true, true, true, true, true, true, true, true, true, false, false, false, false, false, false]) rfl (by kernel_rfl) (by kernel_rfl) (by kernel_rfl) (fun _ _ _ h => h) (p_move (v := .tuple #[.slice a9_10 (Tier.push (t.first.erase key) key t.near).length c9_10, .int .i64 (Tier.over (t.first.erase key) key t.near)]) rfl) rfl rfl rfl (fun _ hw => HeapIs.drop hw (List.Sublist.cons _ (List.Sublist.cons_cons _ (List.Sublist.cons_cons _ (List.Sublist.cons _ (List.Sublist.slnil)))))) rfl ?_
      refine h_take (i := 12) (ls := #[true, true, true, true, true, true, true, true, true, true, true, true, true, false, false, false, false, false]) rfl (by kernel_rfl) (by kernel_rfl) (by kernel_rfl) (fun _ _ _ h => h) (p_extract (vs := [.slice a9_10 (Tier.push (t.first.erase key) key t.near).length c9_10, .int .i64 (Tier.over (t.first.erase key) key t.near)]) (v := .slice a9_10 (Tier.push (t.first.erase key) key t.near).length c9_10) rfl rfl) rfl rfl rfl (fun _ hw => HeapIs.drop hw (List.Sublist.cons _ (List.Sublist.cons_cons _ (List.Sublist.cons_cons _ (List.Sublist.cons _ (List.Sublist.slnil)))))) rfl ?_
      refine h_take (i := 13) (ls := #[true, true, true, true, true, true, true, true, true, true, true, true, true, true, false, false, false, false]) rfl (by kernel_rfl) (by kernel_rfl) (by kernel_rfl) (fun _ _ _ h => h) (p_extract (vs := [.slice a9_10 (Tier.push (t.first.erase key) key t.near).length c9_10, .int .i64 (Tier.over (t.first.erase key) key t.near)]) (v := .int .i64 (Tier.over (t.first.erase key) key t.near)) rfl rfl) rfl rfl rfl (fun _ hw => HeapIs.drop hw (List.Sublist.cons _ (List.Sublist.cons_cons _ (List.Sublist.cons_cons _ (List.Sublist.cons _ (List.Sublist.slnil)))))) rfl ?_
      refine h_take (i := 14) (ls := #[true, true, true, true, true, true, true, true, true, true, true, true, true, true, true, false, false, false]) rfl (by kernel_rfl) (by kernel_rfl) (by kernel_rfl) (fun _ _ _ h => h) (p_nilCheck rfl) rfl rfl rfl (fun _ hw => HeapIs.drop hw (List.Sublist.cons _ (List.Sublist.cons_cons _ (List.Sublist.cons_cons _ (List.Sublist.cons _ (List.Sublist.slnil)))))) rfl ?_
      refine h_take (i := 15) (ls := #[true, true, true, true, true, true, true, true, true, true, true, true, true, true, true, true, false, false]) rfl (by kernel_rfl) (by kernel_rfl) (by kernel_rfl) (fun _ _ _ h => h) (p_fieldAddr (B := Bt) (j := 0) (j' := 2) rfl fo76_2 rfl) rfl rfl rfl (fun _ hw => HeapIs.drop hw (List.Sublist.cons _ (List.Sublist.cons_cons _ (List.Sublist.cons_cons _ (List.Sublist.cons _ (List.Sublist.slnil)))))) rfl ?_
      refine h_one (i := 16) (ls := #[true, true, true, true, true, true, true, true, true, true, true, true, true, true, true, true, true, false]) (by kernel_rfl) rfl rfl ?_
      refine o_store (i := 3) (v := .slice a9_10 (Tier.push (t.first.erase key) key t.near).length c9_10) (cs' := [.int .i64 t.near, .int .i64 t.far, .slice a9_10 (Tier.push (t.first.erase key) key t.near).length c9_10, .slice a5 (t.rest.erase key).length c6]) rfl rfl rfl sz30 rfl rfl rfl ?_
      refine o_nil ?_
      refine h_next (fun _ hw => HeapIs.drop hw (List.Sublist.cons _ (List.Sublist.cons_cons _ (List.Sublist.cons_cons _ (List.Sublist.cons _ (List.Sublist.slnil)))))) ?_
      refine h_take (i := 17) (ls := #[true, true, true, true, true, true, true, true, true, true, true, true, true, true, true, true, true, true]) rfl (by kernel_rfl) (by kernel_rfl) (by kernel_rfl) (fun _ _ _ h => h) (p_assign (v := .int .i64 (Tier.over (t.first.erase key) key t.near)) rfl) rfl rfl rfl (fun _ hw => HeapIs.drop hw (List.Sublist.cons _ (List.Sublist.cons_cons _ (List.Sublist.cons_cons _ (List.Sublist.cons _ (List.Sublist.slnil)))))) rfl ?_
      refine h_done (by kernel_rfl) ?_
      refine q_kont hK10 (a9_10, c9_10, S9_10) (Sub.cons rfl (Sub.cons rfl (Sub.cons rfl (Sub.cons rfl (Sub.cons rfl (Sub.nil _)))))) (fun _ hw => HeapIs.pick hw [0, 1, 2, 3] (by decide) rfl)
  rintro ⟨a9_10, c9_10, S9_10⟩
  show SQ _ 75 w0 _ _ [(0, .pointer (some ⟨Bt, 0, none⟩)), (6, .bool (decide (key ∈ t.first))), (7, .bool (decide (key ∈ t.rest))), (8, .int .i64 (Tier.over (t.first.erase key) key t.near)), (9, .int .i64 (-1))] [own tInt S9_10 a9_10 c9_10 (Tier.push (t.first.erase key) key t.near), own tInt S7 a5 c6 (t.rest.erase key), outer w0 [box Bt [.int .i64 t.near, .int .i64 t.far, .slice at_0 t.first.length ct_0, .slice at_1 t.rest.length ct_1] 76, own tInt St_0 at_0 ct_0 t.first, own tInt St_1 at_1 ct_1 t.rest], box Bt [.int .i64 t.near, .int .i64 t.far, .slice a9_10 (Tier.push (t.first.erase key) key t.near).length c9_10, .slice a5 (t.rest.erase key).length c6] 76]
  refine q_know (fun w hw => own_len (i := 0) (T := tInt) hw rfl) (fun hlr11 => ?_)
  refine q_then ?_
  refine c_seq ?_
  refine c_region ?_
  refine o_pure (p_move (v := .int .i64 (Tier.over (t.first.erase key) key t.near)) rfl) rfl rfl rfl ?_
  refine o_pure (p_ge (p := (Tier.over (t.first.erase key) key t.near)) (q := 0) rfl rfl) rfl rfl rfl ?_
  refine o_nil ?_
  refine q_then ?_
  refine c_cond (b := decide (0 ≤ (Tier.over (t.first.erase key) key t.near))) rfl (fun hc12 => ?_) (fun hc12 => ?_)
  · simp only [decide_eq_true_eq] at hc12
    have hdn := hc12
    rw [← hdd] at hdn
    have hrs : Tier.rest_ t key = Tier.push (t.rest.erase key) (Tier.down t key) t.far := if_pos hdn
    have hgn : Tier.gone t key = Tier.over (t.rest.erase key) (Tier.down t key) t.far := if_pos hdn
    refine c_cut (G := Option Addr × Nat × (Nat → Prop)) (fun ⟨a13_10, c13_10, S13_10⟩ => [(6, .bool (decide (key ∈ t.first))), (7, .bool (decide (key ∈ t.rest))), (9, .int .i64 (Tier.over (t.rest.erase key) (Tier.over (t.first.erase key) key t.near) t.far))]) (fun ⟨a13_10, c13_10, S13_10⟩ => [own tInt S13_10 a13_10 c13_10 (Tier.push (t.rest.erase key) (Tier.over (t.first.erase key) key t.near) t.far), own tInt S9_10 a9_10 c9_10 (Tier.push (t.first.erase key) key t.near), outer w0 [box Bt [.int .i64 t.near, .int .i64 t.far, .slice at_0 t.first.length ct_0, .slice at_1 t.rest.length ct_1] 76, own tInt St_0 at_0 ct_0 t.first, own tInt St_1 at_1 ct_1 t.rest], box Bt [.int .i64 t.near, .int .i64 t.far, .slice a9_10 (Tier.push (t.first.erase key) key t.near).length c9_10, .slice a13_10 (Tier.push (t.rest.erase key) (Tier.over (t.first.erase key) key t.near) t.far).length c13_10] 76]) (fun K hK14 => ?_) ?_
    · refine c_held hmix [own tInt S9_10 a9_10 c9_10 (Tier.push (t.first.erase key) key t.near), outer w0 [box Bt [.int .i64 t.near, .int .i64 t.far, .slice at_0 t.first.length ct_0, .slice at_1 t.rest.length ct_1] 76, own tInt St_0 at_0 ct_0 t.first, own tInt St_1 at_1 ct_1 t.rest]] rfl rfl ?_
      refine h_take (i := 0) (ls := #[true, false, false, false, false, false, false, false, false, false, false, false, false, false, false, false, false, false]) rfl (by kernel_rfl) (by kernel_rfl) (by kernel_rfl) (fun _ _ _ h => h) (p_move (v := .pointer (some ⟨Bt, 0, none⟩)) rfl) rfl rfl rfl (fun _ hw => HeapIs.drop hw (List.Sublist.cons_cons _ (List.Sublist.cons _ (List.Sublist.cons_cons _ (List.Sublist.cons _ (List.Sublist.slnil)))))) rfl ?_
      refine h_take (i := 1) (ls := #[true, true, false, false, false, false, false, false, false, false, false, false, false, false, false, false, false, false]) rfl (by kernel_rfl) (by kernel_rfl) (by kernel_rfl) (fun _ _ _ h => h) (p_move (v := .pointer (some ⟨Bt, 0, none⟩)) rfl) rfl rfl rfl (fun _ hw => HeapIs.drop hw (List.Sublist.cons_cons _ (List.Sublist.cons _ (List.Sublist.cons_cons _ (List.Sublist.cons _ (List.Sublist.slnil)))))) rfl ?_
      refine h_take (i := 2) (ls := #[true, true, true, false, false, false, false, false, false, false, false, false, false, false, false, false, false, false]) rfl (by kernel_rfl) (by kernel_rfl) (by kernel_rfl) (fun _ _ _ h => h) (p_nilCheck rfl) rfl rfl rfl (fun _ hw => HeapIs.drop hw (List.Sublist.cons_cons _ (List.Sublist.cons _ (List.Sublist.cons_cons _ (List.Sublist.cons _ (List.Sublist.slnil)))))) rfl ?_
      refine h_take (i := 3) (ls := #[true, true, true, true, false, false, false, false, false, false, false, false, false, false, false, false, false, false]) rfl (by kernel_rfl) (by kernel_rfl) (by kernel_rfl) (fun _ _ _ h => h) (p_fieldAddr (B := Bt) (j := 0) (j' := 3) rfl fo76_3 rfl) rfl rfl rfl (fun _ hw => HeapIs.drop hw (List.Sublist.cons_cons _ (List.Sublist.cons _ (List.Sublist.cons_cons _ (List.Sublist.cons _ (List.Sublist.slnil)))))) rfl ?_
      refine h_take (i := 5) (ls := #[true, true, true, true, false, true, false, false, false, false, false, false, false, false, false, false, false, false]) rfl (by kernel_rfl) (by kernel_rfl) (by kernel_rfl) (fun _ _ _ h => h) (p_move (v := .int .i64 (Tier.over (t.first.erase key) key t.near)) rfl) rfl rfl rfl (fun _ hw => HeapIs.drop hw (List.Sublist.cons_cons _ (List.Sublist.cons _ (List.Sublist.cons_cons _ (List.Sublist.cons _ (List.Sublist.slnil)))))) rfl ?_
      refine h_take (i := 6) (ls := #[true, true, true, true, false, true, true, false, false, false, false, false, false, false, false, false, false, false]) rfl (by kernel_rfl) (by kernel_rfl) (by kernel_rfl) (fun _ _ _ h => h) (p_move (v := .pointer (some ⟨Bt, 0, none⟩)) rfl) rfl rfl rfl (fun _ hw => HeapIs.drop hw (List.Sublist.cons_cons _ (List.Sublist.cons _ (List.Sublist.cons_cons _ (List.Sublist.cons _ (List.Sublist.slnil)))))) rfl ?_
      refine h_take (i := 7) (ls := #[true, true, true, true, false, true, true, true, false, false, false, false, false, false, false, false, false, false]) rfl (by kernel_rfl) (by kernel_rfl) (by kernel_rfl) (fun _ _ _ h => h) (p_nilCheck rfl) rfl rfl rfl (fun _ hw => HeapIs.drop hw (List.Sublist.cons_cons _ (List.Sublist.cons _ (List.Sublist.cons_cons _ (List.Sublist.cons _ (List.Sublist.slnil)))))) rfl ?_
      refine h_take (i := 8) (ls := #[true, true, true, true, false, true, true, true, true, false, false, false, false, false, false, false, false, false]) rfl (by kernel_rfl) (by kernel_rfl) (by kernel_rfl) (fun _ _ _ h => h) (p_fieldAddr (B := Bt) (j := 0) (j' := 1) rfl fo76_1 rfl) rfl rfl rfl (fun _ hw => HeapIs.drop hw (List.Sublist.cons_cons _ (List.Sublist.cons _ (List.Sublist.cons_cons _ (List.Sublist.cons _ (List.Sublist.slnil)))))) rfl ?_
      refine h_two (i := 4) (j := 9) (ls := #[true, true, true, true, true, true, true, true, true, false, false, false, false, false, false, false, false, false]) (ls' := #[true, true, true, true, false, true, true, true, true, true, false, false, false, false, false, false, false, false]) (by kernel_rfl) rfl rfl rfl rfl ?_ ?_
      · refine o_pure (p_load (i := 3) (v := .slice a5 (t.rest.erase key).length c6) rfl rfl sh30 rfl) rfl rfl rfl ?_
        refine o_nil ?_
        refine h_next (fun _ hw => HeapIs.drop hw (List.Sublist.cons_cons _ (List.Sublist.cons _ (List.Sublist.cons_cons _ (List.Sublist.cons _ (List.Sublist.slnil)))))) ?_
        refine h_one (i := 9) (ls := #[true, true, true, true, true, true, true, true, true, true, false, false, false, false, false, false, false, false]) (by kernel_rfl) rfl rfl ?_
        refine o_pure (p_load (i := 3) (v := .int .i64 t.far) rfl rfl sh3 rfl) rfl rfl rfl ?_
        refine o_nil ?_
        refine h_next (fun _ hw => HeapIs.drop hw (List.Sublist.cons_cons _ (List.Sublist.cons _ (List.Sublist.cons_cons _ (List.Sublist.cons _ (List.Sublist.slnil)))))) ?_
        refine h_one (i := 10) (ls := #[true, true, true, true, true, true, true, true, true, true, true, false, false, false, false, false, false, false]) (by kernel_rfl) rfl rfl ?_
        refine o_pick (H' := [own tInt S7 a5 c6 (t.rest.erase key), own tInt S9_10 a9_10 c9_10 (Tier.push (t.first.erase key) key t.near), outer w0 [box Bt [.int .i64 t.near, .int .i64 t.far, .slice at_0 t.first.length ct_0, .slice at_1 t.rest.length ct_1] 76, own tInt St_0 at_0 ct_0 t.first, own tInt St_1 at_1 ct_1 t.rest], box Bt [.int .i64 t.near, .int .i64 t.far, .slice a9_10 (Tier.push (t.first.erase key) key t.near).length c9_10, .slice a5 (t.rest.erase key).length c6] 76]) [1, 0, 2, 3] (by decide) rfl ?_
        refine o_callX (pre := [own tInt S7 a5 c6 (t.rest.erase key)]) (R := [own tInt S9_10 a9_10 c9_10 (Tier.push (t.first.erase key) key t.near), outer w0 [box Bt [.int .i64 t.near, .int .i64 t.far, .slice at_0 t.first.length ct_0, .slice at_1 t.rest.length ct_1] 76, own tInt St_0 at_0 ct_0 t.first, own tInt St_1 at_1 ct_1 t.rest], box Bt [.int .i64 t.near, .int .i64 t.far, .slice a9_10 (Tier.push (t.first.erase key) key t.near).length c9_10, .slice a5 (t.rest.erase key).length c6] 76]) rfl (tpushed_ok (t.rest.erase key) a5 c6 S7 (Tier.over (t.first.erase key) key t.near) t.far (by first | assumption | omega)) hf99 rfl (fun _ _ => trivial) rfl ?_
        rintro ⟨a13_10, c13_10, S13_10⟩
        refine o_asH (H' := [own tInt S13_10 a13_10 c13_10 (Tier.push (t.rest.erase key) (Tier.over (t.first.erase key) key t.near) t.far), own tInt S9_10 a9_10 c9_10 (Tier.push (t.first.erase key) key t.near), outer w0 [box Bt [.int .i64 t.near, .int .i64 t.far, .slice at_0 t.first.length ct_0, .slice at_1 t.rest.length ct_1] 76, own tInt St_0 at_0 ct_0 t.first, own tInt St_1 at_1 ct_1 t.rest], box Bt [.int .i64 t.near, .int .i64 t.far, .slice a9_10 (Tier.push (t.first.erase key) key t.near).length c9_10, .slice a5 (t.rest.erase key).length c6] 76]) rfl ?_
        refine o_nil ?_
        refine h_next (fun _ hw => HeapIs.drop hw (List.Sublist.cons _ (List.Sublist.cons_cons _ (List.Sublist.cons_cons _ (List.Sublist.cons _ (List.Sublist.slnil)))))) ?_
        refine h_take (i := 11) (ls := #[true, true, true, true, true, true, true, true, true, true, true, true, false, false, false, false, false, false]) rfl (by kernel_rfl) (by kernel_rfl) (by kernel_rfl) (fun _ _ _ h => h) (p_move (v := .tuple #[.slice a13_10 (Tier.push (t.rest.erase key) (Tier.over (t.first.erase key) key t.near) t.far).length c13_10, .int .i64 (Tier.over (t.rest.erase key) (Tier.over (t.first.erase key) key t.near) t.far)]) rfl) rfl rfl rfl (fun _ hw => HeapIs.drop hw (List.Sublist.cons _ (List.Sublist.cons_cons _ (List.Sublist.cons_cons _ (List.Sublist.cons _ (List.Sublist.slnil)))))) rfl ?_
        refine h_take (i := 12) (ls := #[true, true, true, true, true, true, true, true, true, true, true, true, true, false, false, false, false, false]) rfl (by kernel_rfl) (by kernel_rfl) (by kernel_rfl) (fun _ _ _ h => h) (p_extract (vs := [.slice a13_10 (Tier.push (t.rest.erase key) (Tier.over (t.first.erase key) key t.near) t.far).length c13_10, .int .i64 (Tier.over (t.rest.erase key) (Tier.over (t.first.erase key) key t.near) t.far)]) (v := .slice a13_10 (Tier.push (t.rest.erase key) (Tier.over (t.first.erase key) key t.near) t.far).length c13_10) rfl rfl) rfl rfl rfl (fun _ hw => HeapIs.drop hw (List.Sublist.cons _ (List.Sublist.cons_cons _ (List.Sublist.cons_cons _ (List.Sublist.cons _ (List.Sublist.slnil)))))) rfl ?_
        refine h_take (i := 13) (ls := #[true, true, true, true, true, true, true, true, true, true, true, true, true, true, false, false, false, false]) rfl (by kernel_rfl) (by kernel_rfl) (by kernel_rfl) (fun _ _ _ h => h) (p_extract (vs := [.slice a13_10 (Tier.push (t.rest.erase key) (Tier.over (t.first.erase key) key t.near) t.far).length c13_10, .int .i64 (Tier.over (t.rest.erase key) (Tier.over (t.first.erase key) key t.near) t.far)]) (v := .int .i64 (Tier.over (t.rest.erase key) (Tier.over (t.first.erase key) key t.near) t.far)) rfl rfl) rfl rfl rfl (fun _ hw => HeapIs.drop hw (List.Sublist.cons _ (List.Sublist.cons_cons _ (List.Sublist.cons_cons _ (List.Sublist.cons _ (List.Sublist.slnil)))))) rfl ?_
        refine h_take (i := 14) (ls := #[true, true, true, true, true, true, true, true, true, true, true, true, true, true, true, false, false, false]) rfl (by kernel_rfl) (by kernel_rfl) (by kernel_rfl) (fun _ _ _ h => h) (p_nilCheck rfl) rfl rfl rfl (fun _ hw => HeapIs.drop hw (List.Sublist.cons _ (List.Sublist.cons_cons _ (List.Sublist.cons_cons _ (List.Sublist.cons _ (List.Sublist.slnil)))))) rfl ?_
        refine h_take (i := 15) (ls := #[true, true, true, true, true, true, true, true, true, true, true, true, true, true, true, true, false, false]) rfl (by kernel_rfl) (by kernel_rfl) (by kernel_rfl) (fun _ _ _ h => h) (p_fieldAddr (B := Bt) (j := 0) (j' := 3) rfl fo76_3 rfl) rfl rfl rfl (fun _ hw => HeapIs.drop hw (List.Sublist.cons _ (List.Sublist.cons_cons _ (List.Sublist.cons_cons _ (List.Sublist.cons _ (List.Sublist.slnil)))))) rfl ?_
        refine h_one (i := 16) (ls := #[true, true, true, true, true, true, true, true, true, true, true, true, true, true, true, true, true, false]) (by kernel_rfl) rfl rfl ?_
        refine o_store (i := 3) (v := .slice a13_10 (Tier.push (t.rest.erase key) (Tier.over (t.first.erase key) key t.near) t.far).length c13_10) (cs' := [.int .i64 t.near, .int .i64 t.far, .slice a9_10 (Tier.push (t.first.erase key) key t.near).length c9_10, .slice a13_10 (Tier.push (t.rest.erase key) (Tier.over (t.first.erase key) key t.near) t.far).length c13_10]) rfl rfl rfl sz30 rfl rfl rfl ?_
        refine o_nil ?_
        refine h_next (fun _ hw => HeapIs.drop hw (List.Sublist.cons _ (List.Sublist.cons_cons _ (List.Sublist.cons_cons _ (List.Sublist.cons _ (List.Sublist.slnil)))))) ?_
        refine h_take (i := 17) (ls := #[true, true, true, true, true, true, true, true, true, true, true, true, true, true, true, true, true, true]) rfl (by kernel_rfl) (by kernel_rfl) (by kernel_rfl) (fun _ _ _ h => h) (p_assign (v := .int .i64 (Tier.over (t.rest.erase key) (Tier.over (t.first.erase key) key t.near) t.far)) rfl) rfl rfl rfl (fun _ hw => HeapIs.drop hw (List.Sublist.cons _ (List.Sublist.cons_cons _ (List.Sublist.cons_cons _ (List.Sublist.cons _ (List.Sublist.slnil)))))) rfl ?_
        refine h_done (by kernel_rfl) ?_
        refine q_kont hK14 (a13_10, c13_10, S13_10) (Sub.cons rfl (Sub.cons rfl (Sub.cons rfl (Sub.nil _)))) (fun _ hw => HeapIs.pick hw [0, 1, 2, 3] (by decide) rfl)
      · refine o_pure (p_load (i := 3) (v := .int .i64 t.far) rfl rfl sh3 rfl) rfl rfl rfl ?_
        refine o_nil ?_
        refine h_next (fun _ hw => HeapIs.drop hw (List.Sublist.cons_cons _ (List.Sublist.cons _ (List.Sublist.cons_cons _ (List.Sublist.cons _ (List.Sublist.slnil)))))) ?_
        refine h_one (i := 4) (ls := #[true, true, true, true, true, true, true, true, true, true, false, false, false, false, false, false, false, false]) (by kernel_rfl) rfl rfl ?_
        refine o_pure (p_load (i := 3) (v := .slice a5 (t.rest.erase key).length c6) rfl rfl sh30 rfl) rfl rfl rfl ?_
        refine o_nil ?_
        refine h_next (fun _ hw => HeapIs.drop hw (List.Sublist.cons_cons _ (List.Sublist.cons _ (List.Sublist.cons_cons _ (List.Sublist.cons _ (List.Sublist.slnil)))))) ?_
        refine h_one (i := 10) (ls := #[true, true, true, true, true, true, true, true, true, true, true, false, false, false, false, false, false, false]) (by kernel_rfl) rfl rfl ?_
        refine o_pick (H' := [own tInt S7 a5 c6 (t.rest.erase key), own tInt S9_10 a9_10 c9_10 (Tier.push (t.first.erase key) key t.near), outer w0 [box Bt [.int .i64 t.near, .int .i64 t.far, .slice at_0 t.first.length ct_0, .slice at_1 t.rest.length ct_1] 76, own tInt St_0 at_0 ct_0 t.first, own tInt St_1 at_1 ct_1 t.rest], box Bt [.int .i64 t.near, .int .i64 t.far, .slice a9_10 (Tier.push (t.first.erase key) key t.near).length c9_10, .slice a5 (t.rest.erase key).length c6] 76]) [1, 0, 2, 3] (by decide) rfl ?_
        refine o_callX (pre := [own tInt S7 a5 c6 (t.rest.erase key)]) (R := [own tInt S9_10 a9_10 c9_10 (Tier.push (t.first.erase key) key t.near), outer w0 [box Bt [.int .i64 t.near, .int .i64 t.far, .slice at_0 t.first.length ct_0, .slice at_1 t.rest.length ct_1] 76, own tInt St_0 at_0 ct_0 t.first, own tInt St_1 at_1 ct_1 t.rest], box Bt [.int .i64 t.near, .int .i64 t.far, .slice a9_10 (Tier.push (t.first.erase key) key t.near).length c9_10, .slice a5 (t.rest.erase key).length c6] 76]) rfl (tpushed_ok (t.rest.erase key) a5 c6 S7 (Tier.over (t.first.erase key) key t.near) t.far (by first | assumption | omega)) hf99 rfl (fun _ _ => trivial) rfl ?_
        rintro ⟨a13_10, c13_10, S13_10⟩
        refine o_asH (H' := [own tInt S13_10 a13_10 c13_10 (Tier.push (t.rest.erase key) (Tier.over (t.first.erase key) key t.near) t.far), own tInt S9_10 a9_10 c9_10 (Tier.push (t.first.erase key) key t.near), outer w0 [box Bt [.int .i64 t.near, .int .i64 t.far, .slice at_0 t.first.length ct_0, .slice at_1 t.rest.length ct_1] 76, own tInt St_0 at_0 ct_0 t.first, own tInt St_1 at_1 ct_1 t.rest], box Bt [.int .i64 t.near, .int .i64 t.far, .slice a9_10 (Tier.push (t.first.erase key) key t.near).length c9_10, .slice a5 (t.rest.erase key).length c6] 76]) rfl ?_
        refine o_nil ?_
        refine h_next (fun _ hw => HeapIs.drop hw (List.Sublist.cons _ (List.Sublist.cons_cons _ (List.Sublist.cons_cons _ (List.Sublist.cons _ (List.Sublist.slnil)))))) ?_
        refine h_take (i := 11) (ls := #[true, true, true, true, true, true, true, true, true, true, true, true, false, false, false, false, false, false]) rfl (by kernel_rfl) (by kernel_rfl) (by kernel_rfl) (fun _ _ _ h => h) (p_move (v := .tuple #[.slice a13_10 (Tier.push (t.rest.erase key) (Tier.over (t.first.erase key) key t.near) t.far).length c13_10, .int .i64 (Tier.over (t.rest.erase key) (Tier.over (t.first.erase key) key t.near) t.far)]) rfl) rfl rfl rfl (fun _ hw => HeapIs.drop hw (List.Sublist.cons _ (List.Sublist.cons_cons _ (List.Sublist.cons_cons _ (List.Sublist.cons _ (List.Sublist.slnil)))))) rfl ?_
        refine h_take (i := 12) (ls := #[true, true, true, true, true, true, true, true, true, true, true, true, true, false, false, false, false, false]) rfl (by kernel_rfl) (by kernel_rfl) (by kernel_rfl) (fun _ _ _ h => h) (p_extract (vs := [.slice a13_10 (Tier.push (t.rest.erase key) (Tier.over (t.first.erase key) key t.near) t.far).length c13_10, .int .i64 (Tier.over (t.rest.erase key) (Tier.over (t.first.erase key) key t.near) t.far)]) (v := .slice a13_10 (Tier.push (t.rest.erase key) (Tier.over (t.first.erase key) key t.near) t.far).length c13_10) rfl rfl) rfl rfl rfl (fun _ hw => HeapIs.drop hw (List.Sublist.cons _ (List.Sublist.cons_cons _ (List.Sublist.cons_cons _ (List.Sublist.cons _ (List.Sublist.slnil)))))) rfl ?_
        refine h_take (i := 13) (ls := #[true, true, true, true, true, true, true, true, true, true, true, true, true, true, false, false, false, false]) rfl (by kernel_rfl) (by kernel_rfl) (by kernel_rfl) (fun _ _ _ h => h) (p_extract (vs := [.slice a13_10 (Tier.push (t.rest.erase key) (Tier.over (t.first.erase key) key t.near) t.far).length c13_10, .int .i64 (Tier.over (t.rest.erase key) (Tier.over (t.first.erase key) key t.near) t.far)]) (v := .int .i64 (Tier.over (t.rest.erase key) (Tier.over (t.first.erase key) key t.near) t.far)) rfl rfl) rfl rfl rfl (fun _ hw => HeapIs.drop hw (List.Sublist.cons _ (List.Sublist.cons_cons _ (List.Sublist.cons_cons _ (List.Sublist.cons _ (List.Sublist.slnil)))))) rfl ?_
        refine h_take (i := 14) (ls := #[true, true, true, true, true, true, true, true, true, true, true, true, true, true, true, false, false, false]) rfl (by kernel_rfl) (by kernel_rfl) (by kernel_rfl) (fun _ _ _ h => h) (p_nilCheck rfl) rfl rfl rfl (fun _ hw => HeapIs.drop hw (List.Sublist.cons _ (List.Sublist.cons_cons _ (List.Sublist.cons_cons _ (List.Sublist.cons _ (List.Sublist.slnil)))))) rfl ?_
        refine h_take (i := 15) (ls := #[true, true, true, true, true, true, true, true, true, true, true, true, true, true, true, true, false, false]) rfl (by kernel_rfl) (by kernel_rfl) (by kernel_rfl) (fun _ _ _ h => h) (p_fieldAddr (B := Bt) (j := 0) (j' := 3) rfl fo76_3 rfl) rfl rfl rfl (fun _ hw => HeapIs.drop hw (List.Sublist.cons _ (List.Sublist.cons_cons _ (List.Sublist.cons_cons _ (List.Sublist.cons _ (List.Sublist.slnil)))))) rfl ?_
        refine h_one (i := 16) (ls := #[true, true, true, true, true, true, true, true, true, true, true, true, true, true, true, true, true, false]) (by kernel_rfl) rfl rfl ?_
        refine o_store (i := 3) (v := .slice a13_10 (Tier.push (t.rest.erase key) (Tier.over (t.first.erase key) key t.near) t.far).length c13_10) (cs' := [.int .i64 t.near, .int .i64 t.far, .slice a9_10 (Tier.push (t.first.erase key) key t.near).length c9_10, .slice a13_10 (Tier.push (t.rest.erase key) (Tier.over (t.first.erase key) key t.near) t.far).length c13_10]) rfl rfl rfl sz30 rfl rfl rfl ?_
        refine o_nil ?_
        refine h_next (fun _ hw => HeapIs.drop hw (List.Sublist.cons _ (List.Sublist.cons_cons _ (List.Sublist.cons_cons _ (List.Sublist.cons _ (List.Sublist.slnil)))))) ?_
        refine h_take (i := 17) (ls := #[true, true, true, true, true, true, true, true, true, true, true, true, true, true, true, true, true, true]) rfl (by kernel_rfl) (by kernel_rfl) (by kernel_rfl) (fun _ _ _ h => h) (p_assign (v := .int .i64 (Tier.over (t.rest.erase key) (Tier.over (t.first.erase key) key t.near) t.far)) rfl) rfl rfl rfl (fun _ hw => HeapIs.drop hw (List.Sublist.cons _ (List.Sublist.cons_cons _ (List.Sublist.cons_cons _ (List.Sublist.cons _ (List.Sublist.slnil)))))) rfl ?_
        refine h_done (by kernel_rfl) ?_
        refine q_kont hK14 (a13_10, c13_10, S13_10) (Sub.cons rfl (Sub.cons rfl (Sub.cons rfl (Sub.nil _)))) (fun _ hw => HeapIs.pick hw [0, 1, 2, 3] (by decide) rfl)
    rintro ⟨a13_10, c13_10, S13_10⟩
    show SQ _ 75 w0 _ _ [(6, .bool (decide (key ∈ t.first))), (7, .bool (decide (key ∈ t.rest))), (9, .int .i64 (Tier.over (t.rest.erase key) (Tier.over (t.first.erase key) key t.near) t.far))] [own tInt S13_10 a13_10 c13_10 (Tier.push (t.rest.erase key) (Tier.over (t.first.erase key) key t.near) t.far), own tInt S9_10 a9_10 c9_10 (Tier.push (t.first.erase key) key t.near), outer w0 [box Bt [.int .i64 t.near, .int .i64 t.far, .slice at_0 t.first.length ct_0, .slice at_1 t.rest.length ct_1] 76, own tInt St_0 at_0 ct_0 t.first, own tInt St_1 at_1 ct_1 t.rest], box Bt [.int .i64 t.near, .int .i64 t.far, .slice a9_10 (Tier.push (t.first.erase key) key t.near).length c9_10, .slice a13_10 (Tier.push (t.rest.erase key) (Tier.over (t.first.erase key) key t.near) t.far).length c13_10] 76]
    refine q_know (fun w hw => own_len (i := 0) (T := tInt) hw rfl) (fun hlr15 => ?_)
    refine q_then ?_
    refine c_seq ?_
    refine c_block ?_
    refine c_seq ?_
    refine c_region ?_
    refine o_pure (p_move (v := .bool (decide (key ∈ t.first))) rfl) rfl rfl rfl ?_
    refine o_pure (p_assign (v := .bool (decide (key ∈ t.first))) rfl) rfl rfl rfl ?_
    refine o_nil ?_
    refine q_then ?_
    refine c_cond (b := (decide (key ∈ t.first))) rfl (fun hc16 => ?_) (fun hc16 => ?_)
    · simp only [decide_eq_true_eq] at hc16
      have hm1 : key ∈ t.first := by simpa using hc16
      refine c_seq ?_
      refine c_region ?_
      refine o_pure (p_move (v := .int .i64 (Tier.over (t.rest.erase key) (Tier.over (t.first.erase key) key t.near) t.far)) rfl) rfl rfl rfl ?_
      refine o_pure (p_assign (v := .int .i64 1) rfl) rfl rfl rfl ?_
      refine o_pure (p_assign (v := .int .i64 (Tier.over (t.rest.erase key) (Tier.over (t.first.erase key) key t.near) t.far)) rfl) rfl rfl rfl ?_
      refine o_nil ?_
      refine q_then ?_
      refine c_ret ?_
      refine q_block_ret (q_then_ret ?_)
      have hr0 : (t.near : Int) = ((Tier.touch t key).1).near := by
        first | rfl | exact hrs.symm | exact hgn.symm | exact hp1 hm1 | exact hp2 hm1 hm2 | exact hp0 hm1 hm2
      have hr1 : (t.far : Int) = ((Tier.touch t key).1).far := by
        first | rfl | exact hrs.symm | exact hgn.symm | exact hp1 hm1 | exact hp2 hm1 hm2 | exact hp0 hm1 hm2
      have hr2 : ((Tier.push (t.first.erase key) key t.near) : List Int) = ((Tier.touch t key).1).first := by
        first | rfl | exact hrs.symm | exact hgn.symm | exact hp1 hm1 | exact hp2 hm1 hm2 | exact hp0 hm1 hm2
      have hr3 : ((Tier.push (t.rest.erase key) (Tier.over (t.first.erase key) key t.near) t.far) : List Int) = ((Tier.touch t key).1).rest := by
        first | rfl | exact hrs.symm | exact hgn.symm | exact hp1 hm1 | exact hp2 hm1 hm2 | exact hp0 hm1 hm2
      have hr4 : (1 : Int) = (Tier.place t key) := by
        first | rfl | exact hrs.symm | exact hgn.symm | exact hp1 hm1 | exact hp2 hm1 hm2 | exact hp0 hm1 hm2
      have hr5 : ((Tier.over (t.rest.erase key) (Tier.over (t.first.erase key) key t.near) t.far) : Int) = (Tier.gone t key) := by
        first | rfl | exact hrs.symm | exact hgn.symm | exact hp1 hm1 | exact hp2 hm1 hm2 | exact hp0 hm1 hm2
      refine q_endX (p := (a9_10, c9_10, S9_10, a13_10, c13_10, S13_10)) (rt2 rfl (r_tmp rfl) (r_tmp rfl)) ?_ (fun w hw => ?_)
      · exact (by have hcc := congr (congr (congr (congr (congr (congrArg (fun (y0 : Int) (y1 : Int) (y2 : List Int) (y3 : List Int) (y4 : Int) (y5 : Int) => (.tuple #[.int .i64 y4, .int .i64 y5] : Value)) hr0) hr1) hr2) hr3) hr4) hr5; exact hcc)
      · have h2 := hw.pick (H' := [outer w0 [box Bt [.int .i64 t.near, .int .i64 t.far, .slice at_0 t.first.length ct_0, .slice at_1 t.rest.length ct_1] 76, own tInt St_0 at_0 ct_0 t.first, own tInt St_1 at_1 ct_1 t.rest], box Bt [.int .i64 t.near, .int .i64 t.far, .slice a9_10 (Tier.push (t.first.erase key) key t.near).length c9_10, .slice a13_10 (Tier.push (t.rest.erase key) (Tier.over (t.first.erase key) key t.near) t.far).length c13_10] 76, own tInt S9_10 a9_10 c9_10 (Tier.push (t.first.erase key) key t.near), own tInt S13_10 a13_10 c13_10 (Tier.push (t.rest.erase key) (Tier.over (t.first.erase key) key t.near) t.far)]) [2, 3, 1, 0] (by decide) rfl
        exact Eq.mp (congrArg (fun z => HeapIs w0 ((outer w0 [box Bt [.int .i64 t.near, .int .i64 t.far, .slice at_0 t.first.length ct_0, .slice at_1 t.rest.length ct_1] 76, own tInt St_0 at_0 ct_0 t.first, own tInt St_1 at_1 ct_1 t.rest]) :: z) w) ((by have hcc := congr (congr (congr (congr (congr (congrArg (fun (y0 : Int) (y1 : Int) (y2 : List Int) (y3 : List Int) (y4 : Int) (y5 : Int) => ([box Bt [.int .i64 y0, .int .i64 y1, .slice a9_10 y2.length c9_10, .slice a13_10 y3.length c13_10] 76, own tInt S9_10 a9_10 c9_10 y2, own tInt S13_10 a13_10 c13_10 y3] : List Ent)) hr0) hr1) hr2) hr3) hr4) hr5; exact hcc))) h2
    · simp only [decide_eq_false_iff_not] at hc16
      have hm1 : key ∉ t.first := by simpa using hc16
      refine c_seq ?_
      refine c_region ?_
      refine o_pure (p_move (v := .bool (decide (key ∈ t.rest))) rfl) rfl rfl rfl ?_
      refine o_pure (p_assign (v := .bool (decide (key ∈ t.rest))) rfl) rfl rfl rfl ?_
      refine o_nil ?_
      refine q_then ?_
      refine c_cond (b := (decide (key ∈ t.rest))) rfl (fun hc17 => ?_) (fun hc17 => ?_)
      · simp only [decide_eq_true_eq] at hc17
        have hm2 : key ∈ t.rest := by simpa using hc17
        refine c_seq ?_
        refine c_region ?_
        refine o_pure (p_move (v := .int .i64 (Tier.over (t.rest.erase key) (Tier.over (t.first.erase key) key t.near) t.far)) rfl) rfl rfl rfl ?_
        refine o_pure (p_assign (v := .int .i64 2) rfl) rfl rfl rfl ?_
        refine o_pure (p_assign (v := .int .i64 (Tier.over (t.rest.erase key) (Tier.over (t.first.erase key) key t.near) t.far)) rfl) rfl rfl rfl ?_
        refine o_nil ?_
        refine q_then ?_
        refine c_ret ?_
        refine q_block_ret (q_then_ret ?_)
        have hr0 : (t.near : Int) = ((Tier.touch t key).1).near := by
          first | rfl | exact hrs.symm | exact hgn.symm | exact hp1 hm1 | exact hp2 hm1 hm2 | exact hp0 hm1 hm2
        have hr1 : (t.far : Int) = ((Tier.touch t key).1).far := by
          first | rfl | exact hrs.symm | exact hgn.symm | exact hp1 hm1 | exact hp2 hm1 hm2 | exact hp0 hm1 hm2
        have hr2 : ((Tier.push (t.first.erase key) key t.near) : List Int) = ((Tier.touch t key).1).first := by
          first | rfl | exact hrs.symm | exact hgn.symm | exact hp1 hm1 | exact hp2 hm1 hm2 | exact hp0 hm1 hm2
        have hr3 : ((Tier.push (t.rest.erase key) (Tier.over (t.first.erase key) key t.near) t.far) : List Int) = ((Tier.touch t key).1).rest := by
          first | rfl | exact hrs.symm | exact hgn.symm | exact hp1 hm1 | exact hp2 hm1 hm2 | exact hp0 hm1 hm2
        have hr4 : (2 : Int) = (Tier.place t key) := by
          first | rfl | exact hrs.symm | exact hgn.symm | exact hp1 hm1 | exact hp2 hm1 hm2 | exact hp0 hm1 hm2
        have hr5 : ((Tier.over (t.rest.erase key) (Tier.over (t.first.erase key) key t.near) t.far) : Int) = (Tier.gone t key) := by
          first | rfl | exact hrs.symm | exact hgn.symm | exact hp1 hm1 | exact hp2 hm1 hm2 | exact hp0 hm1 hm2
        refine q_endX (p := (a9_10, c9_10, S9_10, a13_10, c13_10, S13_10)) (rt2 rfl (r_tmp rfl) (r_tmp rfl)) ?_ (fun w hw => ?_)
        · exact (by have hcc := congr (congr (congr (congr (congr (congrArg (fun (y0 : Int) (y1 : Int) (y2 : List Int) (y3 : List Int) (y4 : Int) (y5 : Int) => (.tuple #[.int .i64 y4, .int .i64 y5] : Value)) hr0) hr1) hr2) hr3) hr4) hr5; exact hcc)
        · have h2 := hw.pick (H' := [outer w0 [box Bt [.int .i64 t.near, .int .i64 t.far, .slice at_0 t.first.length ct_0, .slice at_1 t.rest.length ct_1] 76, own tInt St_0 at_0 ct_0 t.first, own tInt St_1 at_1 ct_1 t.rest], box Bt [.int .i64 t.near, .int .i64 t.far, .slice a9_10 (Tier.push (t.first.erase key) key t.near).length c9_10, .slice a13_10 (Tier.push (t.rest.erase key) (Tier.over (t.first.erase key) key t.near) t.far).length c13_10] 76, own tInt S9_10 a9_10 c9_10 (Tier.push (t.first.erase key) key t.near), own tInt S13_10 a13_10 c13_10 (Tier.push (t.rest.erase key) (Tier.over (t.first.erase key) key t.near) t.far)]) [2, 3, 1, 0] (by decide) rfl
          exact Eq.mp (congrArg (fun z => HeapIs w0 ((outer w0 [box Bt [.int .i64 t.near, .int .i64 t.far, .slice at_0 t.first.length ct_0, .slice at_1 t.rest.length ct_1] 76, own tInt St_0 at_0 ct_0 t.first, own tInt St_1 at_1 ct_1 t.rest]) :: z) w) ((by have hcc := congr (congr (congr (congr (congr (congrArg (fun (y0 : Int) (y1 : Int) (y2 : List Int) (y3 : List Int) (y4 : Int) (y5 : Int) => ([box Bt [.int .i64 y0, .int .i64 y1, .slice a9_10 y2.length c9_10, .slice a13_10 y3.length c13_10] 76, own tInt S9_10 a9_10 c9_10 y2, own tInt S13_10 a13_10 c13_10 y3] : List Ent)) hr0) hr1) hr2) hr3) hr4) hr5; exact hcc))) h2
      · simp only [decide_eq_false_iff_not] at hc17
        have hm2 : key ∉ t.rest := by simpa using hc17
        refine c_skip ?_
        refine q_block_normal (q_then ?_)
        refine c_seq ?_
        refine c_region ?_
        refine o_pure (p_move (v := .int .i64 (Tier.over (t.rest.erase key) (Tier.over (t.first.erase key) key t.near) t.far)) rfl) rfl rfl rfl ?_
        refine o_pure (p_assign (v := .int .i64 0) rfl) rfl rfl rfl ?_
        refine o_pure (p_assign (v := .int .i64 (Tier.over (t.rest.erase key) (Tier.over (t.first.erase key) key t.near) t.far)) rfl) rfl rfl rfl ?_
        refine o_nil ?_
        refine q_then ?_
        refine c_ret ?_
        have hr0 : (t.near : Int) = ((Tier.touch t key).1).near := by
          first | rfl | exact hrs.symm | exact hgn.symm | exact hp1 hm1 | exact hp2 hm1 hm2 | exact hp0 hm1 hm2
        have hr1 : (t.far : Int) = ((Tier.touch t key).1).far := by
          first | rfl | exact hrs.symm | exact hgn.symm | exact hp1 hm1 | exact hp2 hm1 hm2 | exact hp0 hm1 hm2
        have hr2 : ((Tier.push (t.first.erase key) key t.near) : List Int) = ((Tier.touch t key).1).first := by
          first | rfl | exact hrs.symm | exact hgn.symm | exact hp1 hm1 | exact hp2 hm1 hm2 | exact hp0 hm1 hm2
        have hr3 : ((Tier.push (t.rest.erase key) (Tier.over (t.first.erase key) key t.near) t.far) : List Int) = ((Tier.touch t key).1).rest := by
          first | rfl | exact hrs.symm | exact hgn.symm | exact hp1 hm1 | exact hp2 hm1 hm2 | exact hp0 hm1 hm2
        have hr4 : (0 : Int) = (Tier.place t key) := by
          first | rfl | exact hrs.symm | exact hgn.symm | exact hp1 hm1 | exact hp2 hm1 hm2 | exact hp0 hm1 hm2
        have hr5 : ((Tier.over (t.rest.erase key) (Tier.over (t.first.erase key) key t.near) t.far) : Int) = (Tier.gone t key) := by
          first | rfl | exact hrs.symm | exact hgn.symm | exact hp1 hm1 | exact hp2 hm1 hm2 | exact hp0 hm1 hm2
        refine q_endX (p := (a9_10, c9_10, S9_10, a13_10, c13_10, S13_10)) (rt2 rfl (r_tmp rfl) (r_tmp rfl)) ?_ (fun w hw => ?_)
        · exact (by have hcc := congr (congr (congr (congr (congr (congrArg (fun (y0 : Int) (y1 : Int) (y2 : List Int) (y3 : List Int) (y4 : Int) (y5 : Int) => (.tuple #[.int .i64 y4, .int .i64 y5] : Value)) hr0) hr1) hr2) hr3) hr4) hr5; exact hcc)
        · have h2 := hw.pick (H' := [outer w0 [box Bt [.int .i64 t.near, .int .i64 t.far, .slice at_0 t.first.length ct_0, .slice at_1 t.rest.length ct_1] 76, own tInt St_0 at_0 ct_0 t.first, own tInt St_1 at_1 ct_1 t.rest], box Bt [.int .i64 t.near, .int .i64 t.far, .slice a9_10 (Tier.push (t.first.erase key) key t.near).length c9_10, .slice a13_10 (Tier.push (t.rest.erase key) (Tier.over (t.first.erase key) key t.near) t.far).length c13_10] 76, own tInt S9_10 a9_10 c9_10 (Tier.push (t.first.erase key) key t.near), own tInt S13_10 a13_10 c13_10 (Tier.push (t.rest.erase key) (Tier.over (t.first.erase key) key t.near) t.far)]) [2, 3, 1, 0] (by decide) rfl
          exact Eq.mp (congrArg (fun z => HeapIs w0 ((outer w0 [box Bt [.int .i64 t.near, .int .i64 t.far, .slice at_0 t.first.length ct_0, .slice at_1 t.rest.length ct_1] 76, own tInt St_0 at_0 ct_0 t.first, own tInt St_1 at_1 ct_1 t.rest]) :: z) w) ((by have hcc := congr (congr (congr (congr (congr (congrArg (fun (y0 : Int) (y1 : Int) (y2 : List Int) (y3 : List Int) (y4 : Int) (y5 : Int) => ([box Bt [.int .i64 y0, .int .i64 y1, .slice a9_10 y2.length c9_10, .slice a13_10 y3.length c13_10] 76, own tInt S9_10 a9_10 c9_10 y2, own tInt S13_10 a13_10 c13_10 y3] : List Ent)) hr0) hr1) hr2) hr3) hr4) hr5; exact hcc))) h2
  · simp only [decide_eq_false_iff_not, Int.not_le] at hc12
    have hdn := hc12
    rw [← hdd] at hdn
    have hrs : Tier.rest_ t key = t.rest.erase key := if_neg (by omega)
    have hgn : Tier.gone t key = -1 := if_neg (by omega)
    refine c_skip ?_
    refine q_then ?_
    refine c_seq ?_
    refine c_block ?_
    refine c_seq ?_
    refine c_region ?_
    refine o_pure (p_move (v := .bool (decide (key ∈ t.first))) rfl) rfl rfl rfl ?_
    refine o_pure (p_assign (v := .bool (decide (key ∈ t.first))) rfl) rfl rfl rfl ?_
    refine o_nil ?_
    refine q_then ?_
    refine c_cond (b := (decide (key ∈ t.first))) rfl (fun hc18 => ?_) (fun hc18 => ?_)
    · simp only [decide_eq_true_eq] at hc18
      have hm1 : key ∈ t.first := by simpa using hc18
      refine c_seq ?_
      refine c_region ?_
      refine o_pure (p_move (v := .int .i64 (-1)) rfl) rfl rfl rfl ?_
      refine o_pure (p_assign (v := .int .i64 1) rfl) rfl rfl rfl ?_
      refine o_pure (p_assign (v := .int .i64 (-1)) rfl) rfl rfl rfl ?_
      refine o_nil ?_
      refine q_then ?_
      refine c_ret ?_
      refine q_block_ret (q_then_ret ?_)
      have hr0 : (t.near : Int) = ((Tier.touch t key).1).near := by
        first | rfl | exact hrs.symm | exact hgn.symm | exact hp1 hm1 | exact hp2 hm1 hm2 | exact hp0 hm1 hm2
      have hr1 : (t.far : Int) = ((Tier.touch t key).1).far := by
        first | rfl | exact hrs.symm | exact hgn.symm | exact hp1 hm1 | exact hp2 hm1 hm2 | exact hp0 hm1 hm2
      have hr2 : ((Tier.push (t.first.erase key) key t.near) : List Int) = ((Tier.touch t key).1).first := by
        first | rfl | exact hrs.symm | exact hgn.symm | exact hp1 hm1 | exact hp2 hm1 hm2 | exact hp0 hm1 hm2
      have hr3 : ((t.rest.erase key) : List Int) = ((Tier.touch t key).1).rest := by
        first | rfl | exact hrs.symm | exact hgn.symm | exact hp1 hm1 | exact hp2 hm1 hm2 | exact hp0 hm1 hm2
      have hr4 : (1 : Int) = (Tier.place t key) := by
        first | rfl | exact hrs.symm | exact hgn.symm | exact hp1 hm1 | exact hp2 hm1 hm2 | exact hp0 hm1 hm2
      have hr5 : ((-1) : Int) = (Tier.gone t key) := by
        first | rfl | exact hrs.symm | exact hgn.symm | exact hp1 hm1 | exact hp2 hm1 hm2 | exact hp0 hm1 hm2
      refine q_endX (p := (a9_10, c9_10, S9_10, a5, c6, S7)) (rt2 rfl (r_tmp rfl) (r_tmp rfl)) ?_ (fun w hw => ?_)
      · exact (by have hcc := congr (congr (congr (congr (congr (congrArg (fun (y0 : Int) (y1 : Int) (y2 : List Int) (y3 : List Int) (y4 : Int) (y5 : Int) => (.tuple #[.int .i64 y4, .int .i64 y5] : Value)) hr0) hr1) hr2) hr3) hr4) hr5; exact hcc)
      · have h2 := hw.pick (H' := [outer w0 [box Bt [.int .i64 t.near, .int .i64 t.far, .slice at_0 t.first.length ct_0, .slice at_1 t.rest.length ct_1] 76, own tInt St_0 at_0 ct_0 t.first, own tInt St_1 at_1 ct_1 t.rest], box Bt [.int .i64 t.near, .int .i64 t.far, .slice a9_10 (Tier.push (t.first.erase key) key t.near).length c9_10, .slice a5 (t.rest.erase key).length c6] 76, own tInt S9_10 a9_10 c9_10 (Tier.push (t.first.erase key) key t.near), own tInt S7 a5 c6 (t.rest.erase key)]) [2, 3, 0, 1] (by decide) rfl
        exact Eq.mp (congrArg (fun z => HeapIs w0 ((outer w0 [box Bt [.int .i64 t.near, .int .i64 t.far, .slice at_0 t.first.length ct_0, .slice at_1 t.rest.length ct_1] 76, own tInt St_0 at_0 ct_0 t.first, own tInt St_1 at_1 ct_1 t.rest]) :: z) w) ((by have hcc := congr (congr (congr (congr (congr (congrArg (fun (y0 : Int) (y1 : Int) (y2 : List Int) (y3 : List Int) (y4 : Int) (y5 : Int) => ([box Bt [.int .i64 y0, .int .i64 y1, .slice a9_10 y2.length c9_10, .slice a5 y3.length c6] 76, own tInt S9_10 a9_10 c9_10 y2, own tInt S7 a5 c6 y3] : List Ent)) hr0) hr1) hr2) hr3) hr4) hr5; exact hcc))) h2
    · simp only [decide_eq_false_iff_not] at hc18
      have hm1 : key ∉ t.first := by simpa using hc18
      refine c_seq ?_
      refine c_region ?_
      refine o_pure (p_move (v := .bool (decide (key ∈ t.rest))) rfl) rfl rfl rfl ?_
      refine o_pure (p_assign (v := .bool (decide (key ∈ t.rest))) rfl) rfl rfl rfl ?_
      refine o_nil ?_
      refine q_then ?_
      refine c_cond (b := (decide (key ∈ t.rest))) rfl (fun hc19 => ?_) (fun hc19 => ?_)
      · simp only [decide_eq_true_eq] at hc19
        have hm2 : key ∈ t.rest := by simpa using hc19
        refine c_seq ?_
        refine c_region ?_
        refine o_pure (p_move (v := .int .i64 (-1)) rfl) rfl rfl rfl ?_
        refine o_pure (p_assign (v := .int .i64 2) rfl) rfl rfl rfl ?_
        refine o_pure (p_assign (v := .int .i64 (-1)) rfl) rfl rfl rfl ?_
        refine o_nil ?_
        refine q_then ?_
        refine c_ret ?_
        refine q_block_ret (q_then_ret ?_)
        have hr0 : (t.near : Int) = ((Tier.touch t key).1).near := by
          first | rfl | exact hrs.symm | exact hgn.symm | exact hp1 hm1 | exact hp2 hm1 hm2 | exact hp0 hm1 hm2
        have hr1 : (t.far : Int) = ((Tier.touch t key).1).far := by
          first | rfl | exact hrs.symm | exact hgn.symm | exact hp1 hm1 | exact hp2 hm1 hm2 | exact hp0 hm1 hm2
        have hr2 : ((Tier.push (t.first.erase key) key t.near) : List Int) = ((Tier.touch t key).1).first := by
          first | rfl | exact hrs.symm | exact hgn.symm | exact hp1 hm1 | exact hp2 hm1 hm2 | exact hp0 hm1 hm2
        have hr3 : ((t.rest.erase key) : List Int) = ((Tier.touch t key).1).rest := by
          first | rfl | exact hrs.symm | exact hgn.symm | exact hp1 hm1 | exact hp2 hm1 hm2 | exact hp0 hm1 hm2
        have hr4 : (2 : Int) = (Tier.place t key) := by
          first | rfl | exact hrs.symm | exact hgn.symm | exact hp1 hm1 | exact hp2 hm1 hm2 | exact hp0 hm1 hm2
        have hr5 : ((-1) : Int) = (Tier.gone t key) := by
          first | rfl | exact hrs.symm | exact hgn.symm | exact hp1 hm1 | exact hp2 hm1 hm2 | exact hp0 hm1 hm2
        refine q_endX (p := (a9_10, c9_10, S9_10, a5, c6, S7)) (rt2 rfl (r_tmp rfl) (r_tmp rfl)) ?_ (fun w hw => ?_)
        · exact (by have hcc := congr (congr (congr (congr (congr (congrArg (fun (y0 : Int) (y1 : Int) (y2 : List Int) (y3 : List Int) (y4 : Int) (y5 : Int) => (.tuple #[.int .i64 y4, .int .i64 y5] : Value)) hr0) hr1) hr2) hr3) hr4) hr5; exact hcc)
        · have h2 := hw.pick (H' := [outer w0 [box Bt [.int .i64 t.near, .int .i64 t.far, .slice at_0 t.first.length ct_0, .slice at_1 t.rest.length ct_1] 76, own tInt St_0 at_0 ct_0 t.first, own tInt St_1 at_1 ct_1 t.rest], box Bt [.int .i64 t.near, .int .i64 t.far, .slice a9_10 (Tier.push (t.first.erase key) key t.near).length c9_10, .slice a5 (t.rest.erase key).length c6] 76, own tInt S9_10 a9_10 c9_10 (Tier.push (t.first.erase key) key t.near), own tInt S7 a5 c6 (t.rest.erase key)]) [2, 3, 0, 1] (by decide) rfl
          exact Eq.mp (congrArg (fun z => HeapIs w0 ((outer w0 [box Bt [.int .i64 t.near, .int .i64 t.far, .slice at_0 t.first.length ct_0, .slice at_1 t.rest.length ct_1] 76, own tInt St_0 at_0 ct_0 t.first, own tInt St_1 at_1 ct_1 t.rest]) :: z) w) ((by have hcc := congr (congr (congr (congr (congr (congrArg (fun (y0 : Int) (y1 : Int) (y2 : List Int) (y3 : List Int) (y4 : Int) (y5 : Int) => ([box Bt [.int .i64 y0, .int .i64 y1, .slice a9_10 y2.length c9_10, .slice a5 y3.length c6] 76, own tInt S9_10 a9_10 c9_10 y2, own tInt S7 a5 c6 y3] : List Ent)) hr0) hr1) hr2) hr3) hr4) hr5; exact hcc))) h2
      · simp only [decide_eq_false_iff_not] at hc19
        have hm2 : key ∉ t.rest := by simpa using hc19
        refine c_skip ?_
        refine q_block_normal (q_then ?_)
        refine c_seq ?_
        refine c_region ?_
        refine o_pure (p_move (v := .int .i64 (-1)) rfl) rfl rfl rfl ?_
        refine o_pure (p_assign (v := .int .i64 0) rfl) rfl rfl rfl ?_
        refine o_pure (p_assign (v := .int .i64 (-1)) rfl) rfl rfl rfl ?_
        refine o_nil ?_
        refine q_then ?_
        refine c_ret ?_
        have hr0 : (t.near : Int) = ((Tier.touch t key).1).near := by
          first | rfl | exact hrs.symm | exact hgn.symm | exact hp1 hm1 | exact hp2 hm1 hm2 | exact hp0 hm1 hm2
        have hr1 : (t.far : Int) = ((Tier.touch t key).1).far := by
          first | rfl | exact hrs.symm | exact hgn.symm | exact hp1 hm1 | exact hp2 hm1 hm2 | exact hp0 hm1 hm2
        have hr2 : ((Tier.push (t.first.erase key) key t.near) : List Int) = ((Tier.touch t key).1).first := by
          first | rfl | exact hrs.symm | exact hgn.symm | exact hp1 hm1 | exact hp2 hm1 hm2 | exact hp0 hm1 hm2
        have hr3 : ((t.rest.erase key) : List Int) = ((Tier.touch t key).1).rest := by
          first | rfl | exact hrs.symm | exact hgn.symm | exact hp1 hm1 | exact hp2 hm1 hm2 | exact hp0 hm1 hm2
        have hr4 : (0 : Int) = (Tier.place t key) := by
          first | rfl | exact hrs.symm | exact hgn.symm | exact hp1 hm1 | exact hp2 hm1 hm2 | exact hp0 hm1 hm2
        have hr5 : ((-1) : Int) = (Tier.gone t key) := by
          first | rfl | exact hrs.symm | exact hgn.symm | exact hp1 hm1 | exact hp2 hm1 hm2 | exact hp0 hm1 hm2
        refine q_endX (p := (a9_10, c9_10, S9_10, a5, c6, S7)) (rt2 rfl (r_tmp rfl) (r_tmp rfl)) ?_ (fun w hw => ?_)
        · exact (by have hcc := congr (congr (congr (congr (congr (congrArg (fun (y0 : Int) (y1 : Int) (y2 : List Int) (y3 : List Int) (y4 : Int) (y5 : Int) => (.tuple #[.int .i64 y4, .int .i64 y5] : Value)) hr0) hr1) hr2) hr3) hr4) hr5; exact hcc)
        · have h2 := hw.pick (H' := [outer w0 [box Bt [.int .i64 t.near, .int .i64 t.far, .slice at_0 t.first.length ct_0, .slice at_1 t.rest.length ct_1] 76, own tInt St_0 at_0 ct_0 t.first, own tInt St_1 at_1 ct_1 t.rest], box Bt [.int .i64 t.near, .int .i64 t.far, .slice a9_10 (Tier.push (t.first.erase key) key t.near).length c9_10, .slice a5 (t.rest.erase key).length c6] 76, own tInt S9_10 a9_10 c9_10 (Tier.push (t.first.erase key) key t.near), own tInt S7 a5 c6 (t.rest.erase key)]) [2, 3, 0, 1] (by decide) rfl
          exact Eq.mp (congrArg (fun z => HeapIs w0 ((outer w0 [box Bt [.int .i64 t.near, .int .i64 t.far, .slice at_0 t.first.length ct_0, .slice at_1 t.rest.length ct_1] 76, own tInt St_0 at_0 ct_0 t.first, own tInt St_1 at_1 ct_1 t.rest]) :: z) w) ((by have hcc := congr (congr (congr (congr (congr (congrArg (fun (y0 : Int) (y1 : Int) (y2 : List Int) (y3 : List Int) (y4 : Int) (y5 : Int) => ([box Bt [.int .i64 y0, .int .i64 y1, .slice a9_10 y2.length c9_10, .slice a5 y3.length c6] 76, own tInt S9_10 a9_10 c9_10 y2, own tInt S7 a5 c6 y3] : List Ent)) hr0) hr1) hr2) hr3) hr4) hr5; exact hcc))) h2
end Go.Proofs.Ytkndekkacimekaa
