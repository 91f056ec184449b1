/- The walks, printed by a program from the translation and a specification. -/
import Derived.Test.YthbfdhphnofacacLrF
import Derived.Test.YthbfdhphnofacacLrLaw
import Derived.Test.YthbfdhphnofacacLrW2
namespace Go.Proofs.Ythbfdhphnofacac
open Go.Sx Go.RowKit
set_option maxHeartbeats 8000000 in
set_option maxRecDepth 100000 in
theorem lruCheck_ok (c : DCache) (ac_0 : Option Addr) (cc_0 : Nat) : Fn0 Try.prog 54 [.agg #[.int .i64 c.room, .slice ac_0 c.keys.length cc_0]] (fun w => Rd tInt w ac_0 cc_0 c.keys) (.int .i64 (Lru.check c)) := by
  refine fn0 (nt := 16) (F0 := [(0, .agg #[.int .i64 c.room, .slice ac_0 c.keys.length cc_0])]) Try.func54 rfl Try.ntmps54 rfl rfl (fun w0 hpre => ?_)
  have hc_0 := hpre
  have hlhc_0 := hc_0.2.1
  refine c_seq ?_
  refine c_region ?_
  refine o_box (v := .agg #[.int .i64 c.room, .slice ac_0 c.keys.length cc_0]) rfl rfl (fun B1 => ?_)
  refine o_pure (p_assign (v := .int .i64 0) rfl) rfl rfl rfl ?_
  refine o_nil ?_
  refine q_then ?_
  refine c_seq ?_
  refine c_seq ?_
  refine c_region ?_
  refine o_pure (p_fieldAddr (B := B1) (j := 0) (j' := 0) rfl fo72_0 rfl) rfl rfl rfl ?_
  refine o_pure (p_load (i := 0) (v := .int .i64 c.room) rfl rfl sh3 rfl) rfl rfl rfl ?_
  refine o_call0 (v := .bool (Ref.between c.room (1 : Int) (40 : Int))) rfl (between_ok c.room (1 : Int) (40 : Int)) hf77 (fun _ _ => trivial) rfl ?_
  refine o_pure (p_not (b := (Ref.between c.room (1 : Int) (40 : Int))) rfl) rfl rfl rfl ?_
  refine o_nil ?_
  refine q_then ?_
  refine c_cond (b := (!(Ref.between c.room (1 : Int) (40 : Int)))) rfl (fun hc2 => ?_) (fun hc2 => ?_)
  · simp only [Bool.not_eq_true'] at hc2
    refine c_seq ?_
    refine c_region ?_
    refine o_pure (p_assign (v := .int .i64 3) rfl) rfl rfl rfl ?_
    refine o_nil ?_
    refine q_then ?_
    refine c_ret ?_
    refine q_then_ret ?_
    have hr0 : (3 : Int) = (Lru.check c) := by
      simp only [Ref.between, Lru.check, Lru.okRoom] at *
      grind
    refine q_end0 (v := .int .i64 3) (rt1 rfl (r_tmp rfl)) (i := 1) rfl ?_
    exact (by have hcc := congrArg (fun (y0 : Int) => (.int .i64 y0 : Value)) hr0; exact hcc)
  · simp only [Bool.not_eq_false'] at hc2
    refine c_skip ?_
    refine q_then ?_
    refine c_seq ?_
    refine c_seq ?_
    refine c_region ?_
    refine o_pure (p_fieldAddr (B := B1) (j := 0) (j' := 1) rfl fo72_1 rfl) rfl rfl rfl ?_
    refine o_pure (p_load (i := 0) (v := .slice ac_0 c.keys.length cc_0) rfl rfl sh52 rfl) rfl rfl rfl ?_
    refine o_pure (p_len_slice (len := c.keys.length) rfl rfl Try.underlying52) rfl rfl rfl ?_
    refine o_pure (p_fieldAddr (B := B1) (j := 0) (j' := 0) rfl fo72_0 rfl) rfl rfl rfl ?_
    refine o_pure (p_load (i := 0) (v := .int .i64 c.room) rfl rfl sh3 rfl) rfl rfl rfl ?_
    refine o_pure (p_gt (p := (c.keys.length : Int)) (q := c.room) rfl rfl) rfl rfl rfl ?_
    refine o_nil ?_
    refine q_then ?_
    refine c_cond (b := decide (c.room < (c.keys.length : Int))) rfl (fun hc3 => ?_) (fun hc3 => ?_)
    · simp only [decide_eq_true_eq] at hc3
      refine c_seq ?_
      refine c_region ?_
      refine o_pure (p_assign (v := .int .i64 2) rfl) rfl rfl rfl ?_
      refine o_nil ?_
      refine q_then ?_
      refine c_ret ?_
      refine q_then_ret ?_
      have hr0 : (2 : Int) = (Lru.check c) := by
        simp only [Ref.between, Lru.check, Lru.okRoom] at *
        grind
      refine q_end0 (v := .int .i64 2) (rt1 rfl (r_tmp rfl)) (i := 1) rfl ?_
      exact (by have hcc := congrArg (fun (y0 : Int) => (.int .i64 y0 : Value)) hr0; exact hcc)
    · simp only [decide_eq_false_iff_not, Int.not_lt] at hc3
      refine c_skip ?_
      refine q_then ?_
      refine c_seq ?_
      refine c_region ?_
      refine o_pure (p_fieldAddr (B := B1) (j := 0) (j' := 1) rfl fo72_1 rfl) rfl rfl rfl ?_
      refine o_pure (p_load (i := 0) (v := .slice ac_0 c.keys.length cc_0) rfl rfl sh52 rfl) rfl rfl rfl ?_
      refine o_call0 (v := .int .i64 (Lru.keys c.keys)) rfl (keysOnce_ok c.keys ac_0 cc_0) hf97 (fun w hw => (rd_base (i := 1) rfl hc_0) w hw) rfl ?_
      refine o_pure (p_assign (v := .int .i64 (Lru.keys c.keys)) rfl) rfl rfl rfl ?_
      refine o_nil ?_
      refine q_then ?_
      refine c_ret ?_
      have hr0 : ((Lru.keys c.keys) : Int) = (Lru.check c) := by
        simp only [Ref.between, Lru.check, Lru.okRoom] at *
        grind
      refine q_end0 (v := .int .i64 (Lru.keys c.keys)) (rt1 rfl (r_tmp rfl)) (i := 1) rfl ?_
      exact (by have hcc := congrArg (fun (y0 : Int) => (.int .i64 y0 : Value)) hr0; exact hcc)

set_option maxHeartbeats 8000000 in
set_option maxRecDepth 100000 in
theorem lruTouch_ok (c : DCache) (ac_0 : Option Addr) (cc_0 : Nat) (key : Int) (hy1 : Lru.Ok c) : FnM Try.prog 55 [.agg #[.int .i64 c.room, .slice ac_0 c.keys.length cc_0], .int .i64 key] (fun w => Rd tInt w ac_0 cc_0 c.keys) (Option Addr × Nat) (fun p => .tuple #[.agg #[.int .i64 (((Lru.touch c key).1).room), .slice p.1 (((Lru.touch c key).1).keys).length p.2], .bool ((Lru.touch c key).2.1), .int .i64 ((Lru.touch c key).2.2)]) (fun p S w => SlO tInt S w p.1 p.2 (((Lru.touch c key).1).keys)) := by
  refine fnM (nt := 56) (F0 := [(0, .agg #[.int .i64 c.room, .slice ac_0 c.keys.length cc_0]), (1, .int .i64 key)]) Try.func55 rfl Try.ntmps55 rfl rfl (fun w0 hpre => ?_)
  have hc_0 := hpre
  have hlhc_0 := hc_0.2.1
  have hroom := hy1.room
  have hlen := hy1.len
  refine c_seq ?_
  refine c_region ?_
  refine o_box (v := .agg #[.int .i64 c.room, .slice ac_0 c.keys.length cc_0]) rfl rfl (fun B1 => ?_)
  refine o_alloc ze72 rfl (fun B2 => ?_)
  refine o_pure (p_assign (v := .bool false) rfl) rfl rfl rfl ?_
  refine o_pure (p_assign (v := .int .i64 0) rfl) rfl rfl rfl ?_
  refine o_nil ?_
  refine q_then ?_
  refine c_seq ?_
  refine c_region ?_
  refine o_pure (p_fieldAddr (B := B1) (j := 0) (j' := 0) rfl fo72_0 rfl) rfl rfl rfl ?_
  refine o_pure (p_load (i := 1) (v := .int .i64 c.room) rfl rfl sh3 rfl) rfl rfl rfl ?_
  refine o_pure (p_move (v := .int .i64 key) rfl) rfl rfl rfl ?_
  refine o_buildSlice (m := 1) (T := tInt) (L := [key]) (vs := [.int .i64 key]) rfl rfl rfl rfl Try.underlying52 sz3 (by decide) ze3 rfl (by decide) rfl (fun S3 a4 => ?_)
  refine o_pure (p_build (cells := [.int .i64 c.room, .slice a4 ([key]).length ([key].length)]) fp72 ze72 rfl rfl) rfl rfl rfl ?_
  refine o_alloc ze72 rfl (fun B6 => ?_)
  refine o_storeN (i := 0) (vs := [.int .i64 c.room, .slice a4 ([key]).length ([key].length)]) (cs' := [.int .i64 c.room, .slice a4 ([key]).length ([key].length)]) rfl rfl rfl sz72 rfl rfl rfl rfl ?_
  refine o_nil ?_
  refine q_then ?_
  refine c_seq ?_
  refine c_region ?_
  refine o_pure (p_assign (v := .int .i64 (-1)) rfl) rfl rfl rfl ?_
  refine o_nil ?_
  refine q_then ?_
  refine c_seq ?_
  refine c_seq ?_
  refine c_region ?_
  refine o_pure (p_assign (v := .int .i64 0) rfl) rfl rfl rfl ?_
  refine o_nil ?_
  refine q_then ?_
  refine c_block ?_
  refine c_loop (St := Int × Nat × DCache × Option Addr × Nat × (Nat → Prop))
    (fun ⟨gone, i, oc, aoc_0, coc_0, Soc_0⟩ => [(1, .int .i64 key), (2, .pointer (some ⟨B1, 0, none⟩)), (4, .pointer (some ⟨B2, 0, none⟩)), (7, .pointer (some ⟨B6, 0, none⟩)), (8, .int .i64 gone), (9, .int .i64 (i : Int))])
    (fun ⟨gone, i, oc, aoc_0, coc_0, Soc_0⟩ => [box B6 [.int .i64 oc.room, .slice aoc_0 oc.keys.length coc_0] 72, own tInt Soc_0 aoc_0 coc_0 oc.keys, box B2 [.int .i64 0, .slice none 0 0] 72, box B1 [.int .i64 c.room, .slice ac_0 c.keys.length cc_0] 72, base w0])
    (fun ⟨gone, i, oc, aoc_0, coc_0, Soc_0⟩ => Lru.TInv c key oc gone i)
    (fun ⟨gone, i, oc, aoc_0, coc_0, Soc_0⟩ => c.keys.length - i)
    ((-1), 0, (⟨c.room, [key]⟩ : DCache), a4, [key].length, S3) ?_ (Sub.cons rfl (Sub.cons rfl (Sub.cons rfl (Sub.cons rfl (Sub.cons rfl (Sub.cons rfl (Sub.nil _))))))) (fun _ hw => hw) ?_
  · exact Lru.TInv.start hy1 key
  rintro ⟨gone, i, oc, aoc_0, coc_0, Soc_0⟩ hI K hK7
  have hol := hI.olen
  show SC _ _ Try.prog 56 w0 _ _ [(1, .int .i64 key), (2, .pointer (some ⟨B1, 0, none⟩)), (4, .pointer (some ⟨B2, 0, none⟩)), (7, .pointer (some ⟨B6, 0, none⟩)), (8, .int .i64 gone), (9, .int .i64 (i : Int))] [box B6 [.int .i64 oc.room, .slice aoc_0 oc.keys.length coc_0] 72, own tInt Soc_0 aoc_0 coc_0 oc.keys, box B2 [.int .i64 0, .slice none 0 0] 72, box B1 [.int .i64 c.room, .slice ac_0 c.keys.length cc_0] 72, base w0]
  refine c_seq ?_
  refine c_seq ?_
  refine c_region ?_
  refine o_pure (p_move (v := .int .i64 (i : Int)) rfl) rfl rfl rfl ?_
  refine o_pure (p_fieldAddr (B := B1) (j := 0) (j' := 1) rfl fo72_1 rfl) rfl rfl rfl ?_
  refine o_pure (p_load (i := 3) (v := .slice ac_0 c.keys.length cc_0) rfl rfl sh52 rfl) rfl rfl rfl ?_
  refine o_pure (p_len_slice (len := c.keys.length) rfl rfl Try.underlying52) rfl rfl rfl ?_
  refine o_pure (p_lt (p := (i : Int)) (q := (c.keys.length : Int)) rfl rfl) rfl rfl rfl ?_
  refine o_nil ?_
  refine q_then ?_
  refine c_cond (b := decide ((i : Int) < (c.keys.length : Int))) rfl (fun hc8 => ?_) (fun hc8 => ?_)
  · simp only [decide_eq_true_eq] at hc8
    refine c_skip ?_
    refine q_then ?_
    refine c_seq ?_
    refine c_block ?_
    refine c_seq ?_
    refine c_seq ?_
    refine c_region ?_
    refine o_pure (p_fieldAddr (B := B1) (j := 0) (j' := 1) rfl fo72_1 rfl) rfl rfl rfl ?_
    refine o_pure (p_load (i := 3) (v := .slice ac_0 c.keys.length cc_0) rfl rfl sh52 rfl) rfl rfl rfl ?_
    refine o_pure (p_move (v := .int .i64 (i : Int)) rfl) rfl rfl rfl ?_
    refine o_pure (p_indexAddr (L := c.keys) (T := tInt) (i := (i : Int)) rfl rfl (rd_base (i := 4) rfl hc_0) Try.underlying52 sz3 (by omega) (by omega)) rfl rfl rfl ?_
    refine o_pure (p_loadE1 (i := i) (T := tInt) (L := c.keys) (v := .int .i64 (c.keys[i])) rfl (rd_base (i := 4) rfl hc_0) (by first | assumption | omega) sh3 rfl) rfl rfl rfl ?_
    refine o_pure (p_move (v := .int .i64 key) rfl) rfl rfl rfl ?_
    refine o_pure (p_eq (p := c.keys[i]) (q := key) rfl rfl) rfl rfl rfl ?_
    refine o_nil ?_
    refine q_then ?_
    refine c_cond (b := (c.keys[i] == key)) rfl (fun hc9 => ?_) (fun hc9 => ?_)
    · simp only [beq_iff_eq] at hc9
      refine c_exit ?_
      refine q_then_exit (q_block_exit (q_then ?_))
      refine c_region ?_
      refine o_pure (p_move (v := .int .i64 (i : Int)) rfl) rfl rfl rfl ?_
      refine o_pure (p_addb (p := (i : Int)) (q := 1) rfl rfl (by omega)) rfl rfl rfl ?_
      refine o_pure (p_assign (v := .int .i64 ((i : Int) + 1)) rfl) rfl rfl rfl ?_
      refine o_nil ?_
      refine q_round hK7 (gone, i + 1, oc, aoc_0, coc_0, Soc_0) ?_ ?_ ?_ ?_
      · clear hK7
        first | exact hI.skip (by omega) (by assumption) | exact hI.add (by omega) (by assumption) (by assumption) | exact hI.drop (by omega) (by assumption) (by assumption)
      · (try dsimp only); omega
      · exact Sub.cons rfl (Sub.cons rfl (Sub.cons rfl (Sub.cons rfl (Sub.cons rfl (Sub.cons rfl (Sub.nil _))))))
      · exact fun _ hw => HeapIs.pick hw [0, 1, 2, 3, 4] (by decide) rfl
    · simp only [beq_eq_false_iff_ne, ne_eq] at hc9
      refine c_skip ?_
      refine q_then ?_
      refine c_seq ?_
      refine c_region ?_
      refine o_pure (p_fieldAddr (B := B6) (j := 0) (j' := 1) rfl fo72_1 rfl) rfl rfl rfl ?_
      refine o_pure (p_load (i := 0) (v := .slice aoc_0 oc.keys.length coc_0) rfl rfl sh52 rfl) rfl rfl rfl ?_
      refine o_pure (p_len_slice (len := oc.keys.length) rfl rfl Try.underlying52) rfl rfl rfl ?_
      refine o_pure (p_fieldAddr (B := B1) (j := 0) (j' := 0) rfl fo72_0 rfl) rfl rfl rfl ?_
      refine o_pure (p_load (i := 3) (v := .int .i64 c.room) rfl rfl sh3 rfl) rfl rfl rfl ?_
      refine o_pure (p_lt (p := (oc.keys.length : Int)) (q := c.room) rfl rfl) rfl rfl rfl ?_
      refine o_nil ?_
      refine q_then ?_
      refine c_cond (b := decide ((oc.keys.length : Int) < c.room)) rfl (fun hc10 => ?_) (fun hc10 => ?_)
      · simp only [decide_eq_true_eq] at hc10
        refine c_cut (G := (Nat → Prop) × Option Addr × Option Addr × Nat × (Nat → Prop)) (fun ⟨S11_7, a11_7, a11_8, c11_8, S11_8⟩ => [(1, .int .i64 key), (2, .pointer (some ⟨B1, 0, none⟩)), (4, .pointer (some ⟨B2, 0, none⟩)), (7, .pointer (some ⟨B6, 0, none⟩)), (8, .int .i64 gone), (9, .int .i64 (i : Int))]) (fun ⟨S11_7, a11_7, a11_8, c11_8, S11_8⟩ => [own tInt S11_7 a11_7 ([c.keys[i]].length) ([c.keys[i]]), box B6 [.int .i64 oc.room, .slice a11_8 (oc.keys ++ [c.keys[i]]).length c11_8] 72, own tInt S11_8 a11_8 c11_8 (oc.keys ++ [c.keys[i]]), box B2 [.int .i64 0, .slice none 0 0] 72, box B1 [.int .i64 c.room, .slice ac_0 c.keys.length cc_0] 72, base w0]) (fun K hK12 => ?_) ?_
        · refine c_held hmix [box B2 [.int .i64 0, .slice none 0 0] 72, box B1 [.int .i64 c.room, .slice ac_0 c.keys.length cc_0] 72, base w0] rfl rfl ?_
          refine h_take (i := 0) (ls := #[true, false, false, false, false, false, false, false, false, false, false]) rfl (by kernel_rfl) (by kernel_rfl) (by kernel_rfl) (fun _ _ _ h => h) (p_fieldAddr (B := B6) (j := 0) (j' := 1) rfl fo72_1 rfl) rfl rfl rfl (fun _ hw => HeapIs.drop hw (List.Sublist.cons _ (List.Sublist.cons _ (List.Sublist.cons_cons _ (List.Sublist.cons_cons _ (List.Sublist.cons_cons _ (List.Sublist.slnil))))))) rfl ?_
          refine h_take (i := 2) (ls := #[true, false, true, false, false, false, false, false, false, false, false]) rfl (by kernel_rfl) (by kernel_rfl) (by kernel_rfl) (fun _ _ _ h => h) (p_fieldAddr (B := B1) (j := 0) (j' := 1) rfl fo72_1 rfl) rfl rfl rfl (fun _ hw => HeapIs.drop hw (List.Sublist.cons _ (List.Sublist.cons _ (List.Sublist.cons_cons _ (List.Sublist.cons_cons _ (List.Sublist.cons_cons _ (List.Sublist.slnil))))))) rfl ?_
          refine h_take (i := 3) (ls := #[true, false, true, true, false, false, false, false, false, false, false]) rfl (by kernel_rfl) (by kernel_rfl) (by kernel_rfl) (fun _ _ _ h => h) (p_load (i := 1) (v := .slice ac_0 c.keys.length cc_0) rfl rfl sh52 rfl) rfl rfl rfl (fun _ hw => HeapIs.drop hw (List.Sublist.cons _ (List.Sublist.cons _ (List.Sublist.cons_cons _ (List.Sublist.cons_cons _ (List.Sublist.cons_cons _ (List.Sublist.slnil))))))) rfl ?_
          refine h_take (i := 4) (ls := #[true, false, true, true, true, false, false, false, false, false, false]) rfl (by kernel_rfl) (by kernel_rfl) (by kernel_rfl) (fun _ _ _ h => h) (p_move (v := .int .i64 (i : Int)) rfl) rfl rfl rfl (fun _ hw => HeapIs.drop hw (List.Sublist.cons _ (List.Sublist.cons _ (List.Sublist.cons_cons _ (List.Sublist.cons_cons _ (List.Sublist.cons_cons _ (List.Sublist.slnil))))))) rfl ?_
          refine h_take (i := 5) (ls := #[true, false, true, true, true, true, false, false, false, false, false]) rfl (by kernel_rfl) (by kernel_rfl) (by kernel_rfl) (fun _ _ _ h => h) (p_indexAddr (L := c.keys) (T := tInt) (i := (i : Int)) rfl rfl (rd_base (i := 2) rfl hc_0) Try.underlying52 sz3 (by omega) (by omega)) rfl rfl rfl (fun _ hw => HeapIs.drop hw (List.Sublist.cons _ (List.Sublist.cons _ (List.Sublist.cons_cons _ (List.Sublist.cons_cons _ (List.Sublist.cons_cons _ (List.Sublist.slnil))))))) rfl ?_
          refine h_take (i := 6) (ls := #[true, false, true, true, true, true, true, false, false, false, false]) rfl (by kernel_rfl) (by kernel_rfl) (by kernel_rfl) (fun _ _ _ h => h) (p_loadE1 (i := i) (T := tInt) (L := c.keys) (v := .int .i64 (c.keys[i])) rfl (rd_base (i := 2) rfl hc_0) (by first | assumption | omega) sh3 rfl) rfl rfl rfl (fun _ hw => HeapIs.drop hw (List.Sublist.cons _ (List.Sublist.cons _ (List.Sublist.cons_cons _ (List.Sublist.cons_cons _ (List.Sublist.cons_cons _ (List.Sublist.slnil))))))) rfl ?_
          refine h_two (i := 1) (j := 7) (ls := #[true, true, true, true, true, true, true, false, false, false, false]) (ls' := #[true, false, true, true, true, true, true, true, false, false, false]) (by kernel_rfl) rfl rfl rfl rfl ?_ ?_
          · refine o_pure (p_load (i := 0) (v := .slice aoc_0 oc.keys.length coc_0) rfl rfl sh52 rfl) rfl rfl rfl ?_
            refine o_nil ?_
            refine h_next (fun _ hw => HeapIs.drop hw (List.Sublist.cons _ (List.Sublist.cons _ (List.Sublist.cons_cons _ (List.Sublist.cons_cons _ (List.Sublist.cons_cons _ (List.Sublist.slnil))))))) ?_
            refine h_one (i := 7) (ls := #[true, true, true, true, true, true, true, true, false, false, false]) (by kernel_rfl) rfl rfl ?_
            refine o_buildSlice (m := 1) (T := tInt) (L := [c.keys[i]]) (vs := [.int .i64 (c.keys[i])]) rfl rfl rfl rfl Try.underlying52 sz3 (by decide) ze3 rfl (by decide) rfl (fun S11_7 a11_7 => ?_)
            refine o_nil ?_
            refine h_next (fun _ hw => HeapIs.drop hw (List.Sublist.cons _ (List.Sublist.cons _ (List.Sublist.cons _ (List.Sublist.cons_cons _ (List.Sublist.cons_cons _ (List.Sublist.cons_cons _ (List.Sublist.slnil)))))))) ?_
            refine h_one (i := 8) (ls := #[true, true, true, true, true, true, true, true, true, false, false]) (by kernel_rfl) rfl rfl ?_
            refine o_append (i := 2) (L := oc.keys) (M := [c.keys[i]]) (T := tInt) rfl rfl rfl (rd_own (i := 0) rfl) Try.underlying52 Try.underlying52 (by intro k h; cases h) el3 (by intro z; simp [tInt, one1]) (by decide) (by first | omega | (simp only [List.length_cons, List.length_nil]; omega) | (simp only [List.length_append, List.length_cons, List.length_nil, List.length_take, List.length_drop]; omega)) rfl (fun a11_8 c11_8 S11_8 => ?_)
            refine o_nil ?_
            refine h_next (fun _ hw => HeapIs.drop hw (List.Sublist.cons _ (List.Sublist.cons _ (List.Sublist.cons _ (List.Sublist.cons_cons _ (List.Sublist.cons_cons _ (List.Sublist.cons_cons _ (List.Sublist.slnil)))))))) ?_
            refine h_take (i := 9) (ls := #[true, true, true, true, true, true, true, true, true, true, false]) rfl (by kernel_rfl) (by kernel_rfl) (by kernel_rfl) (fun _ _ _ h => h) (p_fieldAddr (B := B6) (j := 0) (j' := 1) rfl fo72_1 rfl) rfl rfl rfl (fun _ hw => HeapIs.drop hw (List.Sublist.cons _ (List.Sublist.cons _ (List.Sublist.cons _ (List.Sublist.cons_cons _ (List.Sublist.cons_cons _ (List.Sublist.cons_cons _ (List.Sublist.slnil)))))))) rfl ?_
            refine h_one (i := 10) (ls := #[true, true, true, true, true, true, true, true, true, true, true]) (by kernel_rfl) rfl rfl ?_
            refine o_store (i := 1) (v := .slice a11_8 (oc.keys ++ [c.keys[i]]).length c11_8) (cs' := [.int .i64 oc.room, .slice a11_8 (oc.keys ++ [c.keys[i]]).length c11_8]) rfl rfl rfl sz52 rfl rfl rfl ?_
            refine o_nil ?_
            refine h_next (fun _ hw => HeapIs.drop hw (List.Sublist.cons _ (List.Sublist.cons _ (List.Sublist.cons _ (List.Sublist.cons_cons _ (List.Sublist.cons_cons _ (List.Sublist.cons_cons _ (List.Sublist.slnil)))))))) ?_
            refine h_done (by kernel_rfl) ?_
            refine q_kont hK12 (S11_7, a11_7, a11_8, c11_8, S11_8) (Sub.cons rfl (Sub.cons rfl (Sub.cons rfl (Sub.cons rfl (Sub.cons rfl (Sub.cons rfl (Sub.nil _))))))) (fun _ hw => HeapIs.pick hw [0, 1, 2, 3, 4, 5] (by decide) rfl)
          · refine o_buildSlice (m := 1) (T := tInt) (L := [c.keys[i]]) (vs := [.int .i64 (c.keys[i])]) rfl rfl rfl rfl Try.underlying52 sz3 (by decide) ze3 rfl (by decide) rfl (fun S11_7 a11_7 => ?_)
            refine o_nil ?_
            refine h_next (fun _ hw => HeapIs.drop hw (List.Sublist.cons _ (List.Sublist.cons _ (List.Sublist.cons _ (List.Sublist.cons_cons _ (List.Sublist.cons_cons _ (List.Sublist.cons_cons _ (List.Sublist.slnil)))))))) ?_
            refine h_one (i := 1) (ls := #[true, true, true, true, true, true, true, true, false, false, false]) (by kernel_rfl) rfl rfl ?_
            refine o_pure (p_load (i := 1) (v := .slice aoc_0 oc.keys.length coc_0) rfl rfl sh52 rfl) rfl rfl rfl ?_
            refine o_nil ?_
            refine h_next (fun _ hw => HeapIs.drop hw (List.Sublist.cons _ (List.Sublist.cons _ (List.Sublist.cons _ (List.Sublist.cons_cons _ (List.Sublist.cons_cons _ (List.Sublist.cons_cons _ (List.Sublist.slnil)))))))) ?_
            refine h_one (i := 8) (ls := #[true, true, true, true, true, true, true, true, true, false, false]) (by kernel_rfl) rfl rfl ?_
            refine o_append (i := 2) (L := oc.keys) (M := [c.keys[i]]) (T := tInt) rfl rfl rfl (rd_own (i := 0) rfl) Try.underlying52 Try.underlying52 (by intro k h; cases h) el3 (by intro z; simp [tInt, one1]) (by decide) (by first | omega | (simp only [List.length_cons, List.length_nil]; omega) | (simp only [List.length_append, List.length_cons, List.length_nil, List.length_take, List.length_drop]; omega)) rfl (fun a11_8 c11_8 S11_8 => ?_)
            refine o_nil ?_
            refine h_next (fun _ hw => HeapIs.drop hw (List.Sublist.cons _ (List.Sublist.cons _ (List.Sublist.cons _ (List.Sublist.cons_cons _ (List.Sublist.cons_cons _ (List.Sublist.cons_cons _ (List.Sublist.slnil)))))))) ?_
            refine h_take (i := 9) (ls := #[true, true, true, true, true, true, true, true, true, true, false]) rfl (by kernel_rfl) (by kernel_rfl) (by kernel_rfl) (fun _ _ _ h => h) (p_fieldAddr (B := B6) (j := 0) (j' := 1) rfl fo72_1 rfl) rfl rfl rfl (fun _ hw => HeapIs.drop hw (List.Sublist.cons _ (List.Sublist.cons _ (List.Sublist.cons _ (List.Sublist.cons_cons _ (List.Sublist.cons_cons _ (List.Sublist.cons_cons _ (List.Sublist.slnil)))))))) rfl ?_
            refine h_one (i := 10) (ls := #[true, true, true, true, true, true, true, true, true, true, true]) (by kernel_rfl) rfl rfl ?_
            refine o_store (i := 1) (v := .slice a11_8 (oc.keys ++ [c.keys[i]]).length c11_8) (cs' := [.int .i64 oc.room, .slice a11_8 (oc.keys ++ [c.keys[i]]).length c11_8]) rfl rfl rfl sz52 rfl rfl rfl ?_
            refine o_nil ?_
            refine h_next (fun _ hw => HeapIs.drop hw (List.Sublist.cons _ (List.Sublist.cons _ (List.Sublist.cons _ (List.Sublist.cons_cons _ (List.Sublist.cons_cons _ (List.Sublist.cons_cons _ (List.Sublist.slnil)))))))) ?_
            refine h_done (by kernel_rfl) ?_
            refine q_kont hK12 (S11_7, a11_7, a11_8, c11_8, S11_8) (Sub.cons rfl (Sub.cons rfl (Sub.cons rfl (Sub.cons rfl (Sub.cons rfl (Sub.cons rfl (Sub.nil _))))))) (fun _ hw => HeapIs.pick hw [0, 1, 2, 3, 4, 5] (by decide) rfl)
        rintro ⟨S11_7, a11_7, a11_8, c11_8, S11_8⟩
        show SQ _ 56 w0 _ _ [(1, .int .i64 key), (2, .pointer (some ⟨B1, 0, none⟩)), (4, .pointer (some ⟨B2, 0, none⟩)), (7, .pointer (some ⟨B6, 0, none⟩)), (8, .int .i64 gone), (9, .int .i64 (i : Int))] [own tInt S11_7 a11_7 ([c.keys[i]].length) ([c.keys[i]]), box B6 [.int .i64 oc.room, .slice a11_8 (oc.keys ++ [c.keys[i]]).length c11_8] 72, own tInt S11_8 a11_8 c11_8 (oc.keys ++ [c.keys[i]]), box B2 [.int .i64 0, .slice none 0 0] 72, box B1 [.int .i64 c.room, .slice ac_0 c.keys.length cc_0] 72, base w0]
        refine q_cast (F' := [(1, .int .i64 key), (2, .pointer (some ⟨B1, 0, none⟩)), (4, .pointer (some ⟨B2, 0, none⟩)), (7, .pointer (some ⟨B6, 0, none⟩)), (8, .int .i64 gone), (9, .int .i64 (i : Int))]) (H := [own tInt S11_7 a11_7 ([c.keys[i]].length) ([c.keys[i]]), box B6 [.int .i64 oc.room, .slice a11_8 (oc.keys ++ [c.keys[i]]).length c11_8] 72, own tInt S11_8 a11_8 c11_8 (oc.keys ++ [c.keys[i]]), box B2 [.int .i64 0, .slice none 0 0] 72, box B1 [.int .i64 c.room, .slice ac_0 c.keys.length cc_0] 72, base w0]) (H' := [own tInt S11_7 a11_7 ([c.keys[i]].length) ([c.keys[i]]), box B6 [.int .i64 oc.room, .slice a11_8 (oc.keys ++ [c.keys[i]]).length c11_8] 72, own tInt S11_8 a11_8 c11_8 (oc.keys ++ [c.keys[i]]), box B2 [.int .i64 0, .slice none 0 0] 72, box B1 [.int .i64 c.room, .slice ac_0 c.keys.length cc_0] 72, base w0]) (Sub.cons rfl (Sub.cons rfl (Sub.cons rfl (Sub.cons rfl (Sub.cons rfl (Sub.cons rfl (Sub.nil _))))))) (by rfl) ?_
        refine q_block_normal (q_then ?_)
        refine c_region ?_
        refine o_pure (p_move (v := .int .i64 (i : Int)) rfl) rfl rfl rfl ?_
        refine o_pure (p_addb (p := (i : Int)) (q := 1) rfl rfl (by omega)) rfl rfl rfl ?_
        refine o_pure (p_assign (v := .int .i64 ((i : Int) + 1)) rfl) rfl rfl rfl ?_
        refine o_nil ?_
        refine q_round hK7 (gone, i + 1, (⟨oc.room, (oc.keys ++ [c.keys[i]])⟩ : DCache), a11_8, c11_8, S11_8) ?_ ?_ ?_ ?_
        · clear hK7
          first | exact hI.skip (by omega) (by assumption) | exact hI.add (by omega) (by assumption) (by assumption) | exact hI.drop (by omega) (by assumption) (by assumption)
        · (try dsimp only); omega
        · exact Sub.cons rfl (Sub.cons rfl (Sub.cons rfl (Sub.cons rfl (Sub.cons rfl (Sub.cons rfl (Sub.nil _))))))
        · exact fun _ hw => HeapIs.pick hw [1, 2, 3, 4, 5] (by decide) rfl
      · simp only [decide_eq_false_iff_not, Int.not_lt] at hc10
        refine c_region ?_
        refine o_pure (p_fieldAddr (B := B1) (j := 0) (j' := 1) rfl fo72_1 rfl) rfl rfl rfl ?_
        refine o_pure (p_load (i := 3) (v := .slice ac_0 c.keys.length cc_0) rfl rfl sh52 rfl) rfl rfl rfl ?_
        refine o_pure (p_move (v := .int .i64 (i : Int)) rfl) rfl rfl rfl ?_
        refine o_pure (p_indexAddr (L := c.keys) (T := tInt) (i := (i : Int)) rfl rfl (rd_base (i := 4) rfl hc_0) Try.underlying52 sz3 (by omega) (by omega)) rfl rfl rfl ?_
        refine o_pure (p_loadE1 (i := i) (T := tInt) (L := c.keys) (v := .int .i64 (c.keys[i])) rfl (rd_base (i := 4) rfl hc_0) (by first | assumption | omega) sh3 rfl) rfl rfl rfl ?_
        refine o_pure (p_assign (v := .int .i64 (c.keys[i])) rfl) rfl rfl rfl ?_
        refine o_nil ?_
        refine q_block_normal (q_then ?_)
        refine c_region ?_
        refine o_pure (p_move (v := .int .i64 (i : Int)) rfl) rfl rfl rfl ?_
        refine o_pure (p_addb (p := (i : Int)) (q := 1) rfl rfl (by omega)) rfl rfl rfl ?_
        refine o_pure (p_assign (v := .int .i64 ((i : Int) + 1)) rfl) rfl rfl rfl ?_
        refine o_nil ?_
        refine q_round hK7 (c.keys[i], i + 1, oc, aoc_0, coc_0, Soc_0) ?_ ?_ ?_ ?_
        · clear hK7
          first | exact hI.skip (by omega) (by assumption) | exact hI.add (by omega) (by assumption) (by assumption) | exact hI.drop (by omega) (by assumption) (by assumption)
        · (try dsimp only); omega
        · exact Sub.cons rfl (Sub.cons rfl (Sub.cons rfl (Sub.cons rfl (Sub.cons rfl (Sub.cons rfl (Sub.nil _))))))
        · exact fun _ hw => HeapIs.pick hw [0, 1, 2, 3, 4] (by decide) rfl
  · simp only [decide_eq_false_iff_not, Int.not_lt] at hc8
    refine c_exit ?_
    refine q_then_exit (q_then_exit (q_block_exit (q_then ?_)))
    refine c_seq ?_
    refine c_held hmix [box B6 [.int .i64 oc.room, .slice aoc_0 oc.keys.length coc_0] 72, own tInt Soc_0 aoc_0 coc_0 oc.keys, box B1 [.int .i64 c.room, .slice ac_0 c.keys.length cc_0] 72, base w0] rfl rfl ?_
    refine h_take (i := 0) (ls := #[true, false, false, false, false, false, false, false, false]) rfl (by kernel_rfl) (by kernel_rfl) (by kernel_rfl) (fun _ _ _ h => h) (p_load_agg (i := 0) (vs := [.int .i64 oc.room, .slice aoc_0 oc.keys.length coc_0]) rfl rfl sh72 rfl rfl) rfl rfl rfl (fun _ hw => HeapIs.drop hw (List.Sublist.cons_cons _ (List.Sublist.cons_cons _ (List.Sublist.cons _ (List.Sublist.cons_cons _ (List.Sublist.cons_cons _ (List.Sublist.slnil))))))) rfl ?_
    refine h_take (i := 1) (ls := #[true, true, false, false, false, false, false, false, false]) rfl (by kernel_rfl) (by kernel_rfl) (by kernel_rfl) (fun _ _ _ h => h) (p_fieldAddr (B := B1) (j := 0) (j' := 1) rfl fo72_1 rfl) rfl rfl rfl (fun _ hw => HeapIs.drop hw (List.Sublist.cons_cons _ (List.Sublist.cons_cons _ (List.Sublist.cons _ (List.Sublist.cons_cons _ (List.Sublist.cons_cons _ (List.Sublist.slnil))))))) rfl ?_
    refine h_take (i := 2) (ls := #[true, true, true, false, false, false, false, false, false]) rfl (by kernel_rfl) (by kernel_rfl) (by kernel_rfl) (fun _ _ _ h => h) (p_load (i := 2) (v := .slice ac_0 c.keys.length cc_0) rfl rfl sh52 rfl) rfl rfl rfl (fun _ hw => HeapIs.drop hw (List.Sublist.cons_cons _ (List.Sublist.cons_cons _ (List.Sublist.cons _ (List.Sublist.cons_cons _ (List.Sublist.cons_cons _ (List.Sublist.slnil))))))) rfl ?_
    refine h_take (i := 3) (ls := #[true, true, true, true, false, false, false, false, false]) rfl (by kernel_rfl) (by kernel_rfl) (by kernel_rfl) (fun _ _ _ h => h) (p_move (v := .int .i64 key) rfl) rfl rfl rfl (fun _ hw => HeapIs.drop hw (List.Sublist.cons_cons _ (List.Sublist.cons_cons _ (List.Sublist.cons _ (List.Sublist.cons_cons _ (List.Sublist.cons_cons _ (List.Sublist.slnil))))))) rfl ?_
    refine h_take (i := 5) (ls := #[true, true, true, true, false, true, false, false, false]) rfl (by kernel_rfl) (by kernel_rfl) (by kernel_rfl) (fun _ _ _ h => h) (p_move (v := .int .i64 gone) rfl) rfl rfl rfl (fun _ hw => HeapIs.drop hw (List.Sublist.cons_cons _ (List.Sublist.cons_cons _ (List.Sublist.cons _ (List.Sublist.cons_cons _ (List.Sublist.cons_cons _ (List.Sublist.slnil))))))) rfl ?_
    refine h_one (i := 4) (ls := #[true, true, true, true, true, true, false, false, false]) (by kernel_rfl) rfl rfl ?_
    refine o_call0 (v := .bool (Ref.hasInt c.keys key)) rfl (hasInt_ok c.keys ac_0 cc_0 key) hf40 (fun w hw => (rd_base (i := 4) rfl hc_0) w hw) rfl ?_
    refine o_nil ?_
    refine h_next (fun _ hw => HeapIs.drop hw (List.Sublist.cons_cons _ (List.Sublist.cons_cons _ (List.Sublist.cons _ (List.Sublist.cons_cons _ (List.Sublist.cons_cons _ (List.Sublist.slnil))))))) ?_
    refine h_one (i := 6) (ls := #[true, true, true, true, true, true, true, false, false]) (by kernel_rfl) rfl rfl ?_
    refine o_storeN (i := 2) (vs := [.int .i64 oc.room, .slice aoc_0 oc.keys.length coc_0]) (cs' := [.int .i64 oc.room, .slice aoc_0 oc.keys.length coc_0]) rfl rfl rfl sz72 rfl rfl rfl rfl ?_
    refine o_nil ?_
    refine h_next (fun _ hw => HeapIs.drop hw (List.Sublist.cons_cons _ (List.Sublist.cons_cons _ (List.Sublist.cons _ (List.Sublist.cons_cons _ (List.Sublist.cons_cons _ (List.Sublist.slnil))))))) ?_
    refine h_take (i := 7) (ls := #[true, true, true, true, true, true, true, true, false]) rfl (by kernel_rfl) (by kernel_rfl) (by kernel_rfl) (fun _ _ _ h => h) (p_assign (v := .bool (Ref.hasInt c.keys key)) rfl) rfl rfl rfl (fun _ hw => HeapIs.drop hw (List.Sublist.cons_cons _ (List.Sublist.cons_cons _ (List.Sublist.cons _ (List.Sublist.cons_cons _ (List.Sublist.cons_cons _ (List.Sublist.slnil))))))) rfl ?_
    refine h_take (i := 8) (ls := #[true, true, true, true, true, true, true, true, true]) rfl (by kernel_rfl) (by kernel_rfl) (by kernel_rfl) (fun _ _ _ h => h) (p_assign (v := .int .i64 gone) rfl) rfl rfl rfl (fun _ hw => HeapIs.drop hw (List.Sublist.cons_cons _ (List.Sublist.cons_cons _ (List.Sublist.cons _ (List.Sublist.cons_cons _ (List.Sublist.cons_cons _ (List.Sublist.slnil))))))) rfl ?_
    refine h_done (by kernel_rfl) ?_
    refine q_then ?_
    refine c_ret ?_
    obtain ⟨hd1, hd2⟩ := hI.done hy1 (by omega)
    have hr0 : (oc.room : Int) = ((Lru.touch c key).1).room := by
      first | exact hI.room | exact hd1 | exact hd2 | rfl | simp [Ref.hasInt, Lru.touch]
    have hr1 : (oc.keys : List Int) = ((Lru.touch c key).1).keys := by
      first | exact hI.room | exact hd1 | exact hd2 | rfl | simp [Ref.hasInt, Lru.touch]
    have hr2 : ((Ref.hasInt c.keys key) : Bool) = ((Lru.touch c key).2.1) := by
      first | exact hI.room | exact hd1 | exact hd2 | rfl | simp [Ref.hasInt, Lru.touch]
    have hr3 : (gone : Int) = ((Lru.touch c key).2.2) := by
      first | exact hI.room | exact hd1 | exact hd2 | rfl | simp [Ref.hasInt, Lru.touch]
    refine q_endM (p := (aoc_0, coc_0)) Soc_0 (rt3 rfl (r_cell (i := 2) rfl rfl sh72 rfl) (r_tmp rfl) (r_tmp rfl)) (i := 4) rfl ?_ ?_ ?_
    · exact (by have hcc := congr (congr (congr (congrArg (fun (y0 : Int) (y1 : List Int) (y2 : Bool) (y3 : Int) => (.tuple #[.agg #[.int .i64 y0, .slice aoc_0 y1.length coc_0], .bool y2, .int .i64 y3] : Value)) hr0) hr1) hr2) hr3; exact hcc)
    · exact fun w hw => hw.above (i := 4) (j := 1) (by decide) rfl rfl
    · intro w hw; exact Eq.mp (congrArg (fun y => SlO tInt _ w aoc_0 coc_0 y) hr1) ((hw.at (i := 1) rfl).here)

set_option maxHeartbeats 8000000 in
set_option maxRecDepth 100000 in
theorem lruRun_ok (c : DCache) (ac_0 : Option Addr) (cc_0 : Nat) (l : List Int) (al : Option Addr) (cl : Nat) (hy1 : Lru.Ok c ∧ ∀ x ∈ l, Lru.okKey x = true) : FnM Try.prog 56 [.agg #[.int .i64 c.room, .slice ac_0 c.keys.length cc_0], .slice al l.length cl] (fun w => Rd tInt w ac_0 cc_0 c.keys ∧ Rd tInt w al cl l) (Option Addr × Nat) (fun p => .tuple #[.agg #[.int .i64 (((Lru.runGo c 0 l).1).room), .slice p.1 (((Lru.runGo c 0 l).1).keys).length p.2], .int .i64 ((Lru.runGo c 0 l).2)]) (fun p S w => (SlR tInt S w p.1 p.2 (((Lru.runGo c 0 l).1).keys) ∨ (p.1 = ac_0 ∧ p.2 = cc_0 ∧ (((Lru.runGo c 0 l).1).keys) = c.keys))) := by
  refine fnM (nt := 33) (F0 := [(0, .agg #[.int .i64 c.room, .slice ac_0 c.keys.length cc_0]), (1, .slice al l.length cl)]) Try.func56 rfl Try.ntmps56 rfl rfl (fun w0 hpre => ?_)
  obtain ⟨hc_0, hl⟩ := hpre
  have hlhc_0 := hc_0.2.1
  have hlhl := hl.2.1
  refine c_seq ?_
  refine c_region ?_
  refine o_box (v := .agg #[.int .i64 c.room, .slice ac_0 c.keys.length cc_0]) rfl rfl (fun B1 => ?_)
  refine o_alloc ze72 rfl (fun B2 => ?_)
  refine o_pure (p_assign (v := .int .i64 0) rfl) rfl rfl rfl ?_
  refine o_nil ?_
  refine q_then ?_
  refine c_seq ?_
  refine c_region ?_
  refine o_pure (p_assign (v := .int .i64 0) rfl) rfl rfl rfl ?_
  refine o_nil ?_
  refine q_then ?_
  refine c_seq ?_
  refine c_seq ?_
  refine c_region ?_
  refine o_pure (p_assign (v := .int .i64 0) rfl) rfl rfl rfl ?_
  refine o_nil ?_
  refine q_then ?_
  refine c_block ?_
  refine c_heap (H' := [loose tInt (ac_0 = ac_0 ∧ cc_0 = cc_0 ∧ c.keys = c.keys) (fun _ => False) ac_0 cc_0 c.keys, box B2 [.int .i64 0, .slice none 0 0] 72, box B1 [.int .i64 c.room, .slice ac_0 c.keys.length cc_0] 72, base w0]) (fun w hw => HeapIs.looseOf ⟨rfl, rfl, rfl⟩ hw) ?_
  refine c_loop (St := Int × Nat × DCache × Option Addr × Nat × (Nat → Prop))
    (fun ⟨hits, i, cc, acc_0, ccc_0, Scc_0⟩ => [(1, .slice al l.length cl), (2, .pointer (some ⟨B1, 0, none⟩)), (4, .pointer (some ⟨B2, 0, none⟩)), (6, .int .i64 hits), (7, .int .i64 (i : Int))])
    (fun ⟨hits, i, cc, acc_0, ccc_0, Scc_0⟩ => [loose tInt (acc_0 = ac_0 ∧ ccc_0 = cc_0 ∧ cc.keys = c.keys) Scc_0 acc_0 ccc_0 cc.keys, box B2 [.int .i64 0, .slice none 0 0] 72, box B1 [.int .i64 cc.room, .slice acc_0 cc.keys.length ccc_0] 72, base w0])
    (fun ⟨hits, i, cc, acc_0, ccc_0, Scc_0⟩ => Lru.RInv c cc l hits i)
    (fun ⟨hits, i, cc, acc_0, ccc_0, Scc_0⟩ => l.length - i)
    (0, 0, c, ac_0, cc_0, (fun _ => False)) ?_ (Sub.cons rfl (Sub.cons rfl (Sub.cons rfl (Sub.cons rfl (Sub.cons rfl (Sub.nil _)))))) (fun _ hw => hw) ?_
  · exact Lru.RInv.start hy1.1 hy1.2
  rintro ⟨hits, i, cc, acc_0, ccc_0, Scc_0⟩ hI K hK4
  have hn0 := hI.n0
  have hn1 := hI.n1
  show SC _ _ Try.prog 33 w0 _ _ [(1, .slice al l.length cl), (2, .pointer (some ⟨B1, 0, none⟩)), (4, .pointer (some ⟨B2, 0, none⟩)), (6, .int .i64 hits), (7, .int .i64 (i : Int))] [loose tInt (acc_0 = ac_0 ∧ ccc_0 = cc_0 ∧ cc.keys = c.keys) Scc_0 acc_0 ccc_0 cc.keys, box B2 [.int .i64 0, .slice none 0 0] 72, box B1 [.int .i64 cc.room, .slice acc_0 cc.keys.length ccc_0] 72, base w0]
  refine c_seq ?_
  refine c_seq ?_
  refine c_region ?_
  refine o_pure (p_move (v := .int .i64 (i : Int)) rfl) rfl rfl rfl ?_
  refine o_pure (p_move (v := .slice al l.length cl) rfl) rfl rfl rfl ?_
  refine o_pure (p_len_slice (len := l.length) rfl rfl Try.underlying52) rfl rfl rfl ?_
  refine o_pure (p_lt (p := (i : Int)) (q := (l.length : Int)) rfl rfl) rfl rfl rfl ?_
  refine o_nil ?_
  refine q_then ?_
  refine c_cond (b := decide ((i : Int) < (l.length : Int))) rfl (fun hc5 => ?_) (fun hc5 => ?_)
  · simp only [decide_eq_true_eq] at hc5
    refine c_skip ?_
    refine q_then ?_
    refine c_seq ?_
    refine c_block ?_
    refine c_seq ?_
    refine c_cut (G := (Nat → Prop) × Option Addr × Nat × Nat) (fun ⟨S6_5, a6_5, c6_5, B6_10⟩ => [(1, .slice al l.length cl), (2, .pointer (some ⟨B1, 0, none⟩)), (4, .pointer (some ⟨B2, 0, none⟩)), (6, .int .i64 hits), (7, .int .i64 (i : Int)), (8, .pointer (some ⟨B6_10, 0, none⟩)), (9, .bool ((Lru.touch cc (l[i])).2.1))]) (fun ⟨S6_5, a6_5, c6_5, B6_10⟩ => [box B6_10 [.int .i64 (((Lru.touch cc (l[i])).1).room), .slice a6_5 (((Lru.touch cc (l[i])).1).keys).length c6_5] 72, own tInt S6_5 a6_5 c6_5 (((Lru.touch cc (l[i])).1).keys), loose tInt (acc_0 = ac_0 ∧ ccc_0 = cc_0 ∧ cc.keys = c.keys) Scc_0 acc_0 ccc_0 cc.keys, box B2 [.int .i64 0, .slice none 0 0] 72, box B1 [.int .i64 cc.room, .slice acc_0 cc.keys.length ccc_0] 72, base w0]) (fun K hK7 => ?_) ?_
    · refine c_held hmix [loose tInt (acc_0 = ac_0 ∧ ccc_0 = cc_0 ∧ cc.keys = c.keys) Scc_0 acc_0 ccc_0 cc.keys, box B2 [.int .i64 0, .slice none 0 0] 72, box B1 [.int .i64 cc.room, .slice acc_0 cc.keys.length ccc_0] 72, base w0] rfl rfl ?_
      refine h_take (i := 0) (ls := #[true, false, false, false, false, false, false, false, false, false, false, false, false, false]) rfl (by kernel_rfl) (by kernel_rfl) (by kernel_rfl) (fun _ _ _ h => h) (p_load_agg (i := 2) (vs := [.int .i64 cc.room, .slice acc_0 cc.keys.length ccc_0]) rfl rfl sh72 rfl rfl) rfl rfl rfl (fun _ hw => HeapIs.drop hw (List.Sublist.refl _)) rfl ?_
      refine h_take (i := 1) (ls := #[true, true, false, false, false, false, false, false, false, false, false, false, false, false]) rfl (by kernel_rfl) (by kernel_rfl) (by kernel_rfl) (fun _ _ _ h => h) (p_move (v := .slice al l.length cl) rfl) rfl rfl rfl (fun _ hw => HeapIs.drop hw (List.Sublist.refl _)) rfl ?_
      refine h_take (i := 2) (ls := #[true, true, true, false, false, false, false, false, false, false, false, false, false, false]) rfl (by kernel_rfl) (by kernel_rfl) (by kernel_rfl) (fun _ _ _ h => h) (p_move (v := .int .i64 (i : Int)) rfl) rfl rfl rfl (fun _ hw => HeapIs.drop hw (List.Sublist.refl _)) rfl ?_
      refine h_take (i := 3) (ls := #[true, true, true, true, false, false, false, false, false, false, false, false, false, false]) rfl (by kernel_rfl) (by kernel_rfl) (by kernel_rfl) (fun _ _ _ h => h) (p_indexAddr (L := l) (T := tInt) (i := (i : Int)) rfl rfl (rd_base (i := 3) rfl hl) Try.underlying52 sz3 (by omega) (by omega)) rfl rfl rfl (fun _ hw => HeapIs.drop hw (List.Sublist.refl _)) rfl ?_
      refine h_take (i := 4) (ls := #[true, true, true, true, true, false, false, false, false, false, false, false, false, false]) rfl (by kernel_rfl) (by kernel_rfl) (by kernel_rfl) (fun _ _ _ h => h) (p_loadE1 (i := i) (T := tInt) (L := l) (v := .int .i64 (l[i])) rfl (rd_base (i := 3) rfl hl) (by first | assumption | omega) sh3 rfl) rfl rfl rfl (fun _ hw => HeapIs.drop hw (List.Sublist.refl _)) rfl ?_
      refine h_two (i := 5) (j := 10) (ls := #[true, true, true, true, true, true, false, false, false, false, false, false, false, false]) (ls' := #[true, true, true, true, true, false, false, false, false, false, true, false, false, false]) (by kernel_rfl) rfl rfl rfl rfl ?_ ?_
      · refine o_callM rfl (lruTouch_ok cc acc_0 ccc_0 (l[i]) (by first | assumption | exact hI.ok | omega)) hf55 (fun w hw => (rd_loose (i := 0) rfl (fun hφ => by obtain ⟨h1, h2, h3⟩ := hφ; intro w hw; have g1 : acc_0 = ac_0 := h1; have g2 : ccc_0 = cc_0 := h2; have g3 : cc.keys = c.keys := h3; rw [g1, g2, g3]; exact (rd_base (i := 3) rfl hc_0) w hw)) w hw) rfl (fun _ _ _ _ ha hA => SlO.agree ha hA) ?_
        rintro ⟨a6_5, c6_5⟩ S6_5
        refine o_know (fun w hw => own_len (i := 0) (T := tInt) hw rfl) (fun hlr6_5 => ?_)
        refine o_nil ?_
        refine h_next (fun _ hw => HeapIs.drop hw (List.Sublist.cons _ (List.Sublist.cons_cons _ (List.Sublist.cons_cons _ (List.Sublist.cons_cons _ (List.Sublist.cons_cons _ (List.Sublist.slnil))))))) ?_
        refine h_take (i := 6) (ls := #[true, true, true, true, true, true, true, false, false, false, false, false, false, false]) rfl (by kernel_rfl) (by kernel_rfl) (by kernel_rfl) (fun _ _ _ h => h) (p_move (v := .tuple #[.agg #[.int .i64 (((Lru.touch cc (l[i])).1).room), .slice a6_5 (((Lru.touch cc (l[i])).1).keys).length c6_5], .bool ((Lru.touch cc (l[i])).2.1), .int .i64 ((Lru.touch cc (l[i])).2.2)]) rfl) rfl rfl rfl (fun _ hw => HeapIs.drop hw (List.Sublist.cons _ (List.Sublist.cons_cons _ (List.Sublist.cons_cons _ (List.Sublist.cons_cons _ (List.Sublist.cons_cons _ (List.Sublist.slnil))))))) rfl ?_
        refine h_take (i := 7) (ls := #[true, true, true, true, true, true, true, true, false, false, false, false, false, false]) rfl (by kernel_rfl) (by kernel_rfl) (by kernel_rfl) (fun _ _ _ h => h) (p_extract (vs := [.agg #[.int .i64 (((Lru.touch cc (l[i])).1).room), .slice a6_5 (((Lru.touch cc (l[i])).1).keys).length c6_5], .bool ((Lru.touch cc (l[i])).2.1), .int .i64 ((Lru.touch cc (l[i])).2.2)]) (v := .agg #[.int .i64 (((Lru.touch cc (l[i])).1).room), .slice a6_5 (((Lru.touch cc (l[i])).1).keys).length c6_5]) rfl rfl) rfl rfl rfl (fun _ hw => HeapIs.drop hw (List.Sublist.cons _ (List.Sublist.cons_cons _ (List.Sublist.cons_cons _ (List.Sublist.cons_cons _ (List.Sublist.cons_cons _ (List.Sublist.slnil))))))) rfl ?_
        refine h_take (i := 8) (ls := #[true, true, true, true, true, true, true, true, true, false, false, false, false, false]) rfl (by kernel_rfl) (by kernel_rfl) (by kernel_rfl) (fun _ _ _ h => h) (p_extract (vs := [.agg #[.int .i64 (((Lru.touch cc (l[i])).1).room), .slice a6_5 (((Lru.touch cc (l[i])).1).keys).length c6_5], .bool ((Lru.touch cc (l[i])).2.1), .int .i64 ((Lru.touch cc (l[i])).2.2)]) (v := .bool ((Lru.touch cc (l[i])).2.1)) rfl rfl) rfl rfl rfl (fun _ hw => HeapIs.drop hw (List.Sublist.cons _ (List.Sublist.cons_cons _ (List.Sublist.cons_cons _ (List.Sublist.cons_cons _ (List.Sublist.cons_cons _ (List.Sublist.slnil))))))) rfl ?_
        refine h_take (i := 9) (ls := #[true, true, true, true, true, true, true, true, true, true, false, false, false, false]) rfl (by kernel_rfl) (by kernel_rfl) (by kernel_rfl) (fun _ _ _ h => h) (p_extract (vs := [.agg #[.int .i64 (((Lru.touch cc (l[i])).1).room), .slice a6_5 (((Lru.touch cc (l[i])).1).keys).length c6_5], .bool ((Lru.touch cc (l[i])).2.1), .int .i64 ((Lru.touch cc (l[i])).2.2)]) (v := .int .i64 ((Lru.touch cc (l[i])).2.2)) rfl rfl) rfl rfl rfl (fun _ hw => HeapIs.drop hw (List.Sublist.cons _ (List.Sublist.cons_cons _ (List.Sublist.cons_cons _ (List.Sublist.cons_cons _ (List.Sublist.cons_cons _ (List.Sublist.slnil))))))) rfl ?_
        refine h_one (i := 10) (ls := #[true, true, true, true, true, true, true, true, true, true, true, false, false, false]) (by kernel_rfl) rfl rfl ?_
        refine o_alloc ze72 rfl (fun B6_10 => ?_)
        refine o_nil ?_
        refine h_next (fun _ hw => HeapIs.drop hw (List.Sublist.cons _ (List.Sublist.cons _ (List.Sublist.cons_cons _ (List.Sublist.cons_cons _ (List.Sublist.cons_cons _ (List.Sublist.cons_cons _ (List.Sublist.slnil)))))))) ?_
        refine h_one (i := 11) (ls := #[true, true, true, true, true, true, true, true, true, true, true, true, false, false]) (by kernel_rfl) rfl rfl ?_
        refine o_storeN (i := 0) (vs := [.int .i64 (((Lru.touch cc (l[i])).1).room), .slice a6_5 (((Lru.touch cc (l[i])).1).keys).length c6_5]) (cs' := [.int .i64 (((Lru.touch cc (l[i])).1).room), .slice a6_5 (((Lru.touch cc (l[i])).1).keys).length c6_5]) rfl rfl rfl sz72 rfl rfl rfl rfl ?_
        refine o_nil ?_
        refine h_next (fun _ hw => HeapIs.drop hw (List.Sublist.cons _ (List.Sublist.cons _ (List.Sublist.cons_cons _ (List.Sublist.cons_cons _ (List.Sublist.cons_cons _ (List.Sublist.cons_cons _ (List.Sublist.slnil)))))))) ?_
        refine h_take (i := 12) (ls := #[true, true, true, true, true, true, true, true, true, true, true, true, true, false]) rfl (by kernel_rfl) (by kernel_rfl) (by kernel_rfl) (fun _ _ _ h => h) (p_assign (v := .bool ((Lru.touch cc (l[i])).2.1)) rfl) rfl rfl rfl (fun _ hw => HeapIs.drop hw (List.Sublist.cons _ (List.Sublist.cons _ (List.Sublist.cons_cons _ (List.Sublist.cons_cons _ (List.Sublist.cons_cons _ (List.Sublist.cons_cons _ (List.Sublist.slnil)))))))) rfl ?_
        refine h_take (i := 13) (ls := #[true, true, true, true, true, true, true, true, true, true, true, true, true, true]) rfl (by kernel_rfl) (by kernel_rfl) (by kernel_rfl) (fun _ _ _ h => h) (p_assign (v := .int .i64 ((Lru.touch cc (l[i])).2.2)) rfl) rfl rfl rfl (fun _ hw => HeapIs.drop hw (List.Sublist.cons _ (List.Sublist.cons _ (List.Sublist.cons_cons _ (List.Sublist.cons_cons _ (List.Sublist.cons_cons _ (List.Sublist.cons_cons _ (List.Sublist.slnil)))))))) rfl ?_
        refine h_done (by kernel_rfl) ?_
        refine q_kont hK7 (S6_5, a6_5, c6_5, B6_10) (Sub.cons rfl (Sub.cons rfl (Sub.cons rfl (Sub.cons rfl (Sub.cons rfl (Sub.cons rfl (Sub.cons rfl (Sub.nil _)))))))) (fun _ hw => HeapIs.pick hw [0, 1, 2, 3, 4, 5] (by decide) rfl)
      · refine o_alloc ze72 rfl (fun B6_10 => ?_)
        refine o_nil ?_
        refine h_next (fun _ hw => HeapIs.drop hw (List.Sublist.cons _ (List.Sublist.cons_cons _ (List.Sublist.cons_cons _ (List.Sublist.cons_cons _ (List.Sublist.cons_cons _ (List.Sublist.slnil))))))) ?_
        refine h_one (i := 5) (ls := #[true, true, true, true, true, true, false, false, false, false, true, false, false, false]) (by kernel_rfl) rfl rfl ?_
        refine o_callM rfl (lruTouch_ok cc acc_0 ccc_0 (l[i]) (by first | assumption | exact hI.ok | omega)) hf55 (fun w hw => (rd_loose (i := 1) rfl (fun hφ => by obtain ⟨h1, h2, h3⟩ := hφ; intro w hw; have g1 : acc_0 = ac_0 := h1; have g2 : ccc_0 = cc_0 := h2; have g3 : cc.keys = c.keys := h3; rw [g1, g2, g3]; exact (rd_base (i := 4) rfl hc_0) w hw)) w hw) rfl (fun _ _ _ _ ha hA => SlO.agree ha hA) ?_
        rintro ⟨a6_5, c6_5⟩ S6_5
        refine o_know (fun w hw => own_len (i := 0) (T := tInt) hw rfl) (fun hlr6_5 => ?_)
        refine o_nil ?_
        refine h_next (fun _ hw => HeapIs.drop hw (List.Sublist.cons _ (List.Sublist.cons _ (List.Sublist.cons_cons _ (List.Sublist.cons_cons _ (List.Sublist.cons_cons _ (List.Sublist.cons_cons _ (List.Sublist.slnil)))))))) ?_
        refine h_take (i := 6) (ls := #[true, true, true, true, true, true, true, false, false, false, true, false, false, false]) rfl (by kernel_rfl) (by kernel_rfl) (by kernel_rfl) (fun _ _ _ h => h) (p_move (v := .tuple #[.agg #[.int .i64 (((Lru.touch cc (l[i])).1).room), .slice a6_5 (((Lru.touch cc (l[i])).1).keys).length c6_5], .bool ((Lru.touch cc (l[i])).2.1), .int .i64 ((Lru.touch cc (l[i])).2.2)]) rfl) rfl rfl rfl (fun _ hw => HeapIs.drop hw (List.Sublist.cons _ (List.Sublist.cons _ (List.Sublist.cons_cons _ (List.Sublist.cons_cons _ (List.Sublist.cons_cons _ (List.Sublist.cons_cons _ (List.Sublist.slnil)))))))) rfl ?_
        refine h_take (i := 7) (ls := #[true, true, true, true, true, true, true, true, false, false, true, false, false, false]) rfl (by kernel_rfl) (by kernel_rfl) (by kernel_rfl) (fun _ _ _ h => h) (p_extract (vs := [.agg #[.int .i64 (((Lru.touch cc (l[i])).1).room), .slice a6_5 (((Lru.touch cc (l[i])).1).keys).length c6_5], .bool ((Lru.touch cc (l[i])).2.1), .int .i64 ((Lru.touch cc (l[i])).2.2)]) (v := .agg #[.int .i64 (((Lru.touch cc (l[i])).1).room), .slice a6_5 (((Lru.touch cc (l[i])).1).keys).length c6_5]) rfl rfl) rfl rfl rfl (fun _ hw => HeapIs.drop hw (List.Sublist.cons _ (List.Sublist.cons _ (List.Sublist.cons_cons _ (List.Sublist.cons_cons _ (List.Sublist.cons_cons _ (List.Sublist.cons_cons _ (List.Sublist.slnil)))))))) rfl ?_
        refine h_take (i := 8) (ls := #[true, true, true, true, true, true, true, true, true, false, true, false, false, false]) rfl (by kernel_rfl) (by kernel_rfl) (by kernel_rfl) (fun _ _ _ h => h) (p_extract (vs := [.agg #[.int .i64 (((Lru.touch cc (l[i])).1).room), .slice a6_5 (((Lru.touch cc (l[i])).1).keys).length c6_5], .bool ((Lru.touch cc (l[i])).2.1), .int .i64 ((Lru.touch cc (l[i])).2.2)]) (v := .bool ((Lru.touch cc (l[i])).2.1)) rfl rfl) rfl rfl rfl (fun _ hw => HeapIs.drop hw (List.Sublist.cons _ (List.Sublist.cons _ (List.Sublist.cons_cons _ (List.Sublist.cons_cons _ (List.Sublist.cons_cons _ (List.Sublist.cons_cons _ (List.Sublist.slnil)))))))) rfl ?_
        refine h_take (i := 9) (ls := #[true, true, true, true, true, true, true, true, true, true, true, false, false, false]) rfl (by kernel_rfl) (by kernel_rfl) (by kernel_rfl) (fun _ _ _ h => h) (p_extract (vs := [.agg #[.int .i64 (((Lru.touch cc (l[i])).1).room), .slice a6_5 (((Lru.touch cc (l[i])).1).keys).length c6_5], .bool ((Lru.touch cc (l[i])).2.1), .int .i64 ((Lru.touch cc (l[i])).2.2)]) (v := .int .i64 ((Lru.touch cc (l[i])).2.2)) rfl rfl) rfl rfl rfl (fun _ hw => HeapIs.drop hw (List.Sublist.cons _ (List.Sublist.cons _ (List.Sublist.cons_cons _ (List.Sublist.cons_cons _ (List.Sublist.cons_cons _ (List.Sublist.cons_cons _ (List.Sublist.slnil)))))))) rfl ?_
        refine h_one (i := 11) (ls := #[true, true, true, true, true, true, true, true, true, true, true, true, false, false]) (by kernel_rfl) rfl rfl ?_
        refine o_storeN (i := 1) (vs := [.int .i64 (((Lru.touch cc (l[i])).1).room), .slice a6_5 (((Lru.touch cc (l[i])).1).keys).length c6_5]) (cs' := [.int .i64 (((Lru.touch cc (l[i])).1).room), .slice a6_5 (((Lru.touch cc (l[i])).1).keys).length c6_5]) rfl rfl rfl sz72 rfl rfl rfl rfl ?_
        refine o_nil ?_
        refine h_next (fun _ hw => HeapIs.drop hw (List.Sublist.cons _ (List.Sublist.cons _ (List.Sublist.cons_cons _ (List.Sublist.cons_cons _ (List.Sublist.cons_cons _ (List.Sublist.cons_cons _ (List.Sublist.slnil)))))))) ?_
        refine h_take (i := 12) (ls := #[true, true, true, true, true, true, true, true, true, true, true, true, true, false]) rfl (by kernel_rfl) (by kernel_rfl) (by kernel_rfl) (fun _ _ _ h => h) (p_assign (v := .bool ((Lru.touch cc (l[i])).2.1)) rfl) rfl rfl rfl (fun _ hw => HeapIs.drop hw (List.Sublist.cons _ (List.Sublist.cons _ (List.Sublist.cons_cons _ (List.Sublist.cons_cons _ (List.Sublist.cons_cons _ (List.Sublist.cons_cons _ (List.Sublist.slnil)))))))) rfl ?_
        refine h_take (i := 13) (ls := #[true, true, true, true, true, true, true, true, true, true, true, true, true, true]) rfl (by kernel_rfl) (by kernel_rfl) (by kernel_rfl) (fun _ _ _ h => h) (p_assign (v := .int .i64 ((Lru.touch cc (l[i])).2.2)) rfl) rfl rfl rfl (fun _ hw => HeapIs.drop hw (List.Sublist.cons _ (List.Sublist.cons _ (List.Sublist.cons_cons _ (List.Sublist.cons_cons _ (List.Sublist.cons_cons _ (List.Sublist.cons_cons _ (List.Sublist.slnil)))))))) rfl ?_
        refine h_done (by kernel_rfl) ?_
        refine q_kont hK7 (S6_5, a6_5, c6_5, B6_10) (Sub.cons rfl (Sub.cons rfl (Sub.cons rfl (Sub.cons rfl (Sub.cons rfl (Sub.cons rfl (Sub.cons rfl (Sub.nil _)))))))) (fun _ hw => HeapIs.pick hw [1, 0, 2, 3, 4, 5] (by decide) rfl)
    rintro ⟨S6_5, a6_5, c6_5, B6_10⟩
    show SQ _ 33 w0 _ _ [(1, .slice al l.length cl), (2, .pointer (some ⟨B1, 0, none⟩)), (4, .pointer (some ⟨B2, 0, none⟩)), (6, .int .i64 hits), (7, .int .i64 (i : Int)), (8, .pointer (some ⟨B6_10, 0, none⟩)), (9, .bool ((Lru.touch cc (l[i])).2.1))] [box B6_10 [.int .i64 (((Lru.touch cc (l[i])).1).room), .slice a6_5 (((Lru.touch cc (l[i])).1).keys).length c6_5] 72, own tInt S6_5 a6_5 c6_5 (((Lru.touch cc (l[i])).1).keys), loose tInt (acc_0 = ac_0 ∧ ccc_0 = cc_0 ∧ cc.keys = c.keys) Scc_0 acc_0 ccc_0 cc.keys, box B2 [.int .i64 0, .slice none 0 0] 72, box B1 [.int .i64 cc.room, .slice acc_0 cc.keys.length ccc_0] 72, base w0]
    refine q_know (fun w hw => own_len (i := 1) (T := tInt) hw rfl) (fun hlr8 => ?_)
    refine q_then ?_
    refine c_seq ?_
    refine c_seq ?_
    refine c_region ?_
    refine o_pure (p_move (v := .bool ((Lru.touch cc (l[i])).2.1)) rfl) rfl rfl rfl ?_
    refine o_nil ?_
    refine q_then ?_
    refine c_cond (b := ((Lru.touch cc (l[i])).2.1)) rfl (fun hc9 => ?_) (fun hc9 => ?_)
    · skip
      refine c_region ?_
      refine o_pure (p_move (v := .int .i64 hits) rfl) rfl rfl rfl ?_
      refine o_pure (p_addb (p := hits) (q := 1) rfl rfl (by omega)) rfl rfl rfl ?_
      refine o_pure (p_assign (v := .int .i64 (hits + 1)) rfl) rfl rfl rfl ?_
      refine o_nil ?_
      refine q_then ?_
      refine c_region ?_
      refine o_pure (p_load_agg (i := 0) (vs := [.int .i64 (((Lru.touch cc (l[i])).1).room), .slice a6_5 (((Lru.touch cc (l[i])).1).keys).length c6_5]) rfl rfl sh72 rfl rfl) rfl rfl rfl ?_
      refine o_storeN (i := 4) (vs := [.int .i64 (((Lru.touch cc (l[i])).1).room), .slice a6_5 (((Lru.touch cc (l[i])).1).keys).length c6_5]) (cs' := [.int .i64 (((Lru.touch cc (l[i])).1).room), .slice a6_5 (((Lru.touch cc (l[i])).1).keys).length c6_5]) rfl rfl rfl sz72 rfl rfl rfl rfl ?_
      refine o_nil ?_
      refine q_block_normal (q_then ?_)
      refine c_region ?_
      refine o_pure (p_move (v := .int .i64 (i : Int)) rfl) rfl rfl rfl ?_
      refine o_pure (p_addb (p := (i : Int)) (q := 1) rfl rfl (by omega)) rfl rfl rfl ?_
      refine o_pure (p_assign (v := .int .i64 ((i : Int) + 1)) rfl) rfl rfl rfl ?_
      refine o_nil ?_
      refine q_heap (H' := [box B6_10 [.int .i64 (((Lru.touch cc (l[i])).1).room), .slice a6_5 (((Lru.touch cc (l[i])).1).keys).length c6_5] 72, loose tInt (a6_5 = ac_0 ∧ c6_5 = cc_0 ∧ (((Lru.touch cc (l[i])).1).keys) = c.keys) S6_5 a6_5 c6_5 (((Lru.touch cc (l[i])).1).keys), loose tInt (acc_0 = ac_0 ∧ ccc_0 = cc_0 ∧ cc.keys = c.keys) Scc_0 acc_0 ccc_0 cc.keys, box B2 [.int .i64 0, .slice none 0 0] 72, box B1 [.int .i64 (((Lru.touch cc (l[i])).1).room), .slice a6_5 (((Lru.touch cc (l[i])).1).keys).length c6_5] 72, base w0]) (fun w hw => HeapIs.toLoose (i := 1) (T := tInt) rfl hw) ?_
      refine q_round hK4 ((hits + 1), i + 1, ((Lru.touch cc (l[i])).1), a6_5, c6_5, S6_5) ?_ ?_ ?_ ?_
      · clear hK4
        first | exact hI.hit (by omega) (by assumption) | exact hI.miss (by omega) (by assumption)
      · (try dsimp only); omega
      · exact Sub.cons rfl (Sub.cons rfl (Sub.cons rfl (Sub.cons rfl (Sub.cons rfl (Sub.nil _)))))
      · exact fun _ hw => HeapIs.pick hw [1, 3, 4, 5] (by decide) rfl
    · skip
      refine c_skip ?_
      refine q_then ?_
      refine c_region ?_
      refine o_pure (p_load_agg (i := 0) (vs := [.int .i64 (((Lru.touch cc (l[i])).1).room), .slice a6_5 (((Lru.touch cc (l[i])).1).keys).length c6_5]) rfl rfl sh72 rfl rfl) rfl rfl rfl ?_
      refine o_storeN (i := 4) (vs := [.int .i64 (((Lru.touch cc (l[i])).1).room), .slice a6_5 (((Lru.touch cc (l[i])).1).keys).length c6_5]) (cs' := [.int .i64 (((Lru.touch cc (l[i])).1).room), .slice a6_5 (((Lru.touch cc (l[i])).1).keys).length c6_5]) rfl rfl rfl sz72 rfl rfl rfl rfl ?_
      refine o_nil ?_
      refine q_block_normal (q_then ?_)
      refine c_region ?_
      refine o_pure (p_move (v := .int .i64 (i : Int)) rfl) rfl rfl rfl ?_
      refine o_pure (p_addb (p := (i : Int)) (q := 1) rfl rfl (by omega)) rfl rfl rfl ?_
      refine o_pure (p_assign (v := .int .i64 ((i : Int) + 1)) rfl) rfl rfl rfl ?_
      refine o_nil ?_
      refine q_heap (H' := [box B6_10 [.int .i64 (((Lru.touch cc (l[i])).1).room), .slice a6_5 (((Lru.touch cc (l[i])).1).keys).length c6_5] 72, loose tInt (a6_5 = ac_0 ∧ c6_5 = cc_0 ∧ (((Lru.touch cc (l[i])).1).keys) = c.keys) S6_5 a6_5 c6_5 (((Lru.touch cc (l[i])).1).keys), loose tInt (acc_0 = ac_0 ∧ ccc_0 = cc_0 ∧ cc.keys = c.keys) Scc_0 acc_0 ccc_0 cc.keys, box B2 [.int .i64 0, .slice none 0 0] 72, box B1 [.int .i64 (((Lru.touch cc (l[i])).1).room), .slice a6_5 (((Lru.touch cc (l[i])).1).keys).length c6_5] 72, base w0]) (fun w hw => HeapIs.toLoose (i := 1) (T := tInt) rfl hw) ?_
      refine q_round hK4 (hits, i + 1, ((Lru.touch cc (l[i])).1), a6_5, c6_5, S6_5) ?_ ?_ ?_ ?_
      · clear hK4
        first | exact hI.hit (by omega) (by assumption) | exact hI.miss (by omega) (by assumption)
      · (try dsimp only); omega
      · exact Sub.cons rfl (Sub.cons rfl (Sub.cons rfl (Sub.cons rfl (Sub.cons rfl (Sub.nil _)))))
      · exact fun _ hw => HeapIs.pick hw [1, 3, 4, 5] (by decide) rfl
  · simp only [decide_eq_false_iff_not, Int.not_lt] at hc5
    refine c_exit ?_
    refine q_then_exit (q_then_exit (q_block_exit (q_then ?_)))
    refine c_seq ?_
    refine c_region ?_
    refine o_pure (p_load_agg (i := 2) (vs := [.int .i64 cc.room, .slice acc_0 cc.keys.length ccc_0]) rfl rfl sh72 rfl rfl) rfl rfl rfl ?_
    refine o_pure (p_move (v := .int .i64 hits) rfl) rfl rfl rfl ?_
    refine o_storeN (i := 1) (vs := [.int .i64 cc.room, .slice acc_0 cc.keys.length ccc_0]) (cs' := [.int .i64 cc.room, .slice acc_0 cc.keys.length ccc_0]) rfl rfl rfl sz72 rfl rfl rfl rfl ?_
    refine o_pure (p_assign (v := .int .i64 hits) rfl) rfl rfl rfl ?_
    refine o_nil ?_
    refine q_then ?_
    refine c_ret ?_
    have hd := hI.done (by omega)
    have hr0 : (cc.room : Int) = ((Lru.runGo c 0 l).1).room := by
      simp only [hd]
    have hr1 : (cc.keys : List Int) = ((Lru.runGo c 0 l).1).keys := by
      simp only [hd]
    have hr2 : (hits : Int) = ((Lru.runGo c 0 l).2) := by
      simp only [hd]
    refine q_endM (p := (acc_0, ccc_0)) Scc_0 (rt2 rfl (r_cell (i := 1) rfl rfl sh72 rfl) (r_tmp rfl)) (i := 3) rfl ?_ ?_ ?_
    · exact (by have hcc := congr (congr (congrArg (fun (y0 : Int) (y1 : List Int) (y2 : Int) => (.tuple #[.agg #[.int .i64 y0, .slice acc_0 y1.length ccc_0], .int .i64 y2] : Value)) hr0) hr1) hr2; exact hcc)
    · exact fun w hw => hw.above (i := 3) (j := 0) (by decide) rfl rfl
    · intro w hw; exact Eq.mp (congrArg (fun y => SlR tInt _ w acc_0 ccc_0 y ∨ (acc_0 = ac_0 ∧ ccc_0 = cc_0 ∧ y = c.keys)) hr1) (Or.imp (fun h => SlR.mono (fun b hb => by simp [hb]) h) id (hw.at (i := 0) rfl).here)

set_option maxHeartbeats 8000000 in
set_option maxRecDepth 100000 in
theorem sameCache_ok (a : DCache) (aa_0 : Option Addr) (ca_0 : Nat) (b : DCache) (ab_0 : Option Addr) (cb_0 : Nat) : Fn0 Try.prog 60 [.agg #[.int .i64 a.room, .slice aa_0 a.keys.length ca_0], .agg #[.int .i64 b.room, .slice ab_0 b.keys.length cb_0]] (fun w => Rd tInt w aa_0 ca_0 a.keys ∧ Rd tInt w ab_0 cb_0 b.keys) (.bool (decide (a = b))) := by
  refine fn0 (nt := 17) (F0 := [(0, .agg #[.int .i64 a.room, .slice aa_0 a.keys.length ca_0]), (1, .agg #[.int .i64 b.room, .slice ab_0 b.keys.length cb_0])]) Try.func60 rfl Try.ntmps60 rfl rfl (fun w0 hpre => ?_)
  obtain ⟨ha_0, hb_0⟩ := hpre
  have hlha_0 := ha_0.2.1
  have hlhb_0 := hb_0.2.1
  refine c_seq ?_
  refine c_region ?_
  refine o_box (v := .agg #[.int .i64 a.room, .slice aa_0 a.keys.length ca_0]) rfl rfl (fun B1 => ?_)
  refine o_box (v := .agg #[.int .i64 b.room, .slice ab_0 b.keys.length cb_0]) rfl rfl (fun B2 => ?_)
  refine o_pure (p_assign (v := .bool false) rfl) rfl rfl rfl ?_
  refine o_nil ?_
  refine q_then ?_
  refine c_seq ?_
  refine c_region ?_
  refine o_pure (p_fieldAddr (B := B1) (j := 0) (j' := 0) rfl fo72_0 rfl) rfl rfl rfl ?_
  refine o_pure (p_load (i := 1) (v := .int .i64 a.room) rfl rfl sh3 rfl) rfl rfl rfl ?_
  refine o_pure (p_fieldAddr (B := B2) (j := 0) (j' := 0) rfl fo72_0 rfl) rfl rfl rfl ?_
  refine o_pure (p_load (i := 0) (v := .int .i64 b.room) rfl rfl sh3 rfl) rfl rfl rfl ?_
  refine o_pure (p_eq (p := a.room) (q := b.room) rfl rfl) rfl rfl rfl ?_
  refine o_pure (p_move (v := .bool (a.room == b.room)) rfl) rfl rfl rfl ?_
  refine o_and (p := 16) 6 (Ref.sameInts a.keys b.keys) ?_ ?_ ?_
  · intro hb3 hk
    simp only [beq_iff_eq] at hb3
    refine o_unguard 10 rfl rfl ?_
    refine o_pure (p_fieldAddr (B := B1) (j := 0) (j' := 1) rfl fo72_1 rfl) rfl rfl rfl ?_
    refine o_unguard 10 rfl rfl ?_
    refine o_pure (p_load (i := 1) (v := .slice aa_0 a.keys.length ca_0) rfl rfl sh52 rfl) rfl rfl rfl ?_
    refine o_unguard 10 rfl rfl ?_
    refine o_pure (p_fieldAddr (B := B2) (j := 0) (j' := 1) rfl fo72_1 rfl) rfl rfl rfl ?_
    refine o_unguard 10 rfl rfl ?_
    refine o_pure (p_load (i := 0) (v := .slice ab_0 b.keys.length cb_0) rfl rfl sh52 rfl) rfl rfl rfl ?_
    refine o_unguard 10 rfl rfl ?_
    refine o_call0 (v := .bool (Ref.sameInts a.keys b.keys)) rfl (sameInts_ok a.keys aa_0 ca_0 b.keys ab_0 cb_0) hf47 (fun w hw => ⟨(rd_base (i := 2) rfl ha_0) w hw, (rd_base (i := 2) rfl hb_0) w hw⟩) rfl ?_
    refine o_pure (p_pick_true (u := .bool (Ref.sameInts a.keys b.keys)) rfl rfl) rfl rfl rfl ?_
    exact o_sub (Sub.cons rfl (Sub.skip rfl (Sub.skip rfl (Sub.skip rfl (Sub.skip rfl (Sub.skip rfl (Sub.skip rfl (Sub.skip rfl (Sub.refl _))))))))) hk
  · intro hb3 hk
    refine o_guard_no rfl 10 rfl rfl rfl rfl rfl ?_
    refine o_guard_no rfl 10 rfl rfl rfl rfl rfl ?_
    refine o_guard_no rfl 10 rfl rfl rfl rfl rfl ?_
    refine o_guard_no rfl 10 rfl rfl rfl rfl rfl ?_
    refine o_guard_no rfl 10 rfl rfl rfl rfl rfl ?_
    refine o_pure (p_pick_false (v := .bool false) rfl rfl) rfl rfl rfl ?_
    exact o_sub (Sub.cons rfl (Sub.skip rfl (Sub.skip rfl (Sub.skip rfl (Sub.skip rfl (Sub.skip rfl (Sub.skip rfl (Sub.skip rfl (Sub.refl _))))))))) hk
  refine o_pure (p_assign (v := .bool ((a.room == b.room) && (Ref.sameInts a.keys b.keys))) rfl) rfl rfl rfl ?_
  refine o_nil ?_
  refine q_then ?_
  refine c_ret ?_
  have hr0 : (((a.room == b.room) && (Ref.sameInts a.keys b.keys)) : Bool) = (decide (a = b)) := by
    rw [Bool.eq_iff_iff]; simp [Ref.sameInts, Lru.same_cache]
  refine q_end0 (v := .bool ((a.room == b.room) && (Ref.sameInts a.keys b.keys))) (rt1 rfl (r_tmp rfl)) (i := 2) rfl ?_
  exact (by have hcc := congrArg (fun (y0 : Bool) => (.bool y0 : Value)) hr0; exact hcc)
end Go.Proofs.Ythbfdhphnofacac
