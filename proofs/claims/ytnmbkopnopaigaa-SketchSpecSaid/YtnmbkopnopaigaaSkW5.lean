/- The walks, printed by a program from the translation and a specification. -/
import Derived.Test.YtnmbkopnopaigaaSkF
import Derived.Test.YtnmbkopnopaigaaSkLaw
import Derived.Test.YtnmbkopnopaigaaSkW4
namespace Go.Proofs.Ytnmbkopnopaigaa
open Go.Sx Go.RowKit
set_option maxHeartbeats 8000000 in
set_option maxRecDepth 100000 in
theorem emptySketch_ok (rows : Int) (wide : Int) (hy1 : 0 ≤ rows ∧ rows ≤ 6 ∧ 0 ≤ wide ∧ wide ≤ 64) : FnM Try.prog 28 [Vi rows, Vi wide] (fun _ => True) (Option Addr × NC) (fun p => .agg #[Vi ((Sk.empty rows wide).wide), .slice p.1 ((Sk.empty rows wide).counts).length p.2.n]) (fun p S w => SlON tInt S w p.1 p.2 ((Sk.empty rows wide).counts)) := by
 refine fnM (nt := 22) (F0 := [(0, Vi rows), (1, Vi wide)]) Try.func28 rfl Try.ntmps28 rfl rfl (fun w0 hpre => ?_)
 refine c_seq (c_region ?_)
 refine o_alloc ze24 rfl (fun B1 => ?_)
 refine o_nil (q_then (c_seq (c_region ?_)))
 refine o_mv rfl rfl ?_
 refine o_p (p_build (cells := [Vi wide, .slice none 0 0]) fp24 ze24 rfl rfl) ?_
 refine o_alloc ze24 rfl (fun B2 => ?_)
 refine o_storeN (i := 0) (vs := [Vi wide, .slice none 0 0]) (cs' := [Vi wide, .slice none 0 0]) rfl rfl rfl sz24 rfl rfl rfl rfl ?_
 refine o_nil (q_then (c_seq (c_seq (c_region ?_))))
 refine o_as rfl rfl ?_
 refine o_nil (q_then (c_block ?_))
 refine c_ownNilN tInt ?_
 refine c_loop (St := Nat × DSketch × Option Addr × NC × (Nat → Prop))
  (fun ⟨i, oo, aoo_0, coo_0, Soo_0⟩ => [(0, Vi rows), (1, Vi wide), (4, .pointer (some ⟨B1, 0, none⟩)), (5, .pointer (some ⟨B2, 0, none⟩)), (6, Vi (i : Int))])
  (fun ⟨i, oo, aoo_0, coo_0, Soo_0⟩ => [ownN tInt Soo_0 aoo_0 coo_0 oo.counts, box B2 [Vi oo.wide, .slice aoo_0 oo.counts.length coo_0.n] 24, box B1 [Vi 0, .slice none 0 0] 24, base w0])
  (fun ⟨i, oo, aoo_0, coo_0, Soo_0⟩ => i ≤ rows.toNat ∧ oo = ⟨wide, List.replicate i (List.replicate wide.toNat 0)⟩)
  (fun ⟨i, oo, aoo_0, coo_0, Soo_0⟩ => rows.toNat - i)
  (0, (⟨wide, []⟩ : DSketch), none, nc0, (fun _ => False)) ?_ (sr (sr (sr (sr (sr (Sub.nil _)))))) (fun _ hw => hw) ?_
 ·exact ⟨Nat.zero_le _, rfl⟩
 rintro ⟨i, oo, aoo_0, coo_0, Soo_0⟩ hI K hK4
 have hol : oo.counts.length = i := by rw [hI.2]; simp
 show SC _ _ Try.prog 22 w0 _ _ [(0, Vi rows), (1, Vi wide), (4, .pointer (some ⟨B1, 0, none⟩)), (5, .pointer (some ⟨B2, 0, none⟩)), (6, Vi (i : Int))] [ownN tInt Soo_0 aoo_0 coo_0 oo.counts, box B2 [Vi oo.wide, .slice aoo_0 oo.counts.length coo_0.n] 24, box B1 [Vi 0, .slice none 0 0] 24, base w0]
 refine c_seq (c_seq (c_region ?_))
 refine o_mv rfl rfl ?_
 refine o_mv rfl rfl ?_
 refine o_p (p_lt rfl rfl) ?_
 refine o_nil (q_then ?_)
 refine c_cond rfl (fun hc5 => ?_) (fun hc5 => ?_)
 ·simp only [decide_eq_true_eq] at hc5
  refine c_skip (q_then (c_seq (c_block ?_)))
  refine c_cut (G := Option Addr × (Nat → Prop) × Option Addr × Option Addr × Nat × (Nat → Prop)) (fun ⟨a6_3, S6_4, a6_4, a6_5, c6_5, S6_5⟩ => [(0, Vi rows), (1, Vi wide), (4, .pointer (some ⟨B1, 0, none⟩)), (5, .pointer (some ⟨B2, 0, none⟩)), (6, Vi (i : Int))]) (fun ⟨a6_3, S6_4, a6_4, a6_5, c6_5, S6_5⟩ => [ownN tInt S6_5 a6_5 (coo_0.push c6_5 oo.counts.length a6_3 wide.toNat) (oo.counts ++ [(List.replicate wide.toNat (0 : Int))]), own tHdE S6_4 a6_4 ([(⟨a6_3, (List.replicate wide.toNat (0 : Int)).length, wide.toNat⟩ : HdE)].length) ([(⟨a6_3, (List.replicate wide.toNat (0 : Int)).length, wide.toNat⟩ : HdE)]), box B2 [Vi oo.wide, .slice a6_5 (oo.counts ++ [(List.replicate wide.toNat (0 : Int))]).length (coo_0.push c6_5 oo.counts.length a6_3 wide.toNat).n] 24, box B1 [Vi 0, .slice none 0 0] 24, base w0]) (fun K hK7 => ?_) ?_
  ·refine c_held hmix [box B1 [Vi 0, .slice none 0 0] 24, base w0] rfl rfl ?_
   refine h_tk (i := 0) (ls := #[T1,F0,F0,F0,F0,F0,F0,F0]) rfl (p_fieldAddr (j' := 1) rfl fo24_1 rfl) (dp (lz (lz (lj (lj (ln)))))) ?_
   refine h_tk (i := 2) (ls := #[T1,F0,T1,F0,F0,F0,F0,F0]) rfl (p_move rfl) (dp (lz (lz (lj (lj (ln)))))) ?_
   refine h_two (i := 1) (j := 3) (ls := #[T1,T1,T1,F0,F0,F0,F0,F0]) (ls' := #[T1,F0,T1,T1,F0,F0,F0,F0]) (by kernel_rfl) rfl rfl rfl rfl ?_ ?_
   ·refine o_p (p_load (i := 1) (v := .slice aoo_0 oo.counts.length coo_0.n) rfl rfl sh22 rfl) ?_
    refine o_nil ?_
    refine h_next (dp (lz (lz (lj (lj (ln)))))) ?_
    refine h_one (i := 3) (ls := #[T1,T1,T1,T1,F0,F0,F0,F0]) (by kernel_rfl) rfl rfl ?_
    refine o_makeSlice (T := tInt) (m := wide) (z := (0 : Int)) rfl rfl Try.underlying37 el3 ze3 rfl (by decide) (by omega) (by omega) rfl (fun S6_3 a6_3 => ?_)
    refine o_nil ?_
    refine h_next (dp (lz (lz (lz (lj (lj (ln))))))) ?_
    refine h_one (i := 4) (ls := #[T1,T1,T1,T1,T1,F0,F0,F0]) (by kernel_rfl) rfl rfl ?_
    refine o_buildSlice (m := 1) (T := tHdE) (L := [(⟨a6_3, (List.replicate wide.toNat (0 : Int)).length, wide.toNat⟩ : HdE)]) (vs := [.slice a6_3 (List.replicate wide.toNat (0 : Int)).length wide.toNat]) rfl rfl rfl rfl Try.underlying22 sz37 (by decide) ze37 rfl (by decide) rfl (fun S6_4 a6_4 => ?_)
    refine o_nil ?_
    refine h_next (dp (lz (lz (lz (lz (lj (lj (ln)))))))) ?_
    refine h_one (i := 5) (ls := #[T1,T1,T1,T1,T1,T1,F0,F0]) (by kernel_rfl) rfl rfl ?_
    refine o_pick (H' := [ownN tInt Soo_0 aoo_0 coo_0 oo.counts, own tInt S6_3 a6_3 wide.toNat (List.replicate wide.toNat (0 : Int)), own tHdE S6_4 a6_4 ([(⟨a6_3, (List.replicate wide.toNat (0 : Int)).length, wide.toNat⟩ : HdE)].length) ([(⟨a6_3, (List.replicate wide.toNat (0 : Int)).length, wide.toNat⟩ : HdE)]), box B2 [Vi oo.wide, .slice aoo_0 oo.counts.length coo_0.n] 24, box B1 [Vi 0, .slice none 0 0] 24, base w0]) [2, 1, 0, 3, 4, 5] (by decide) rfl ?_
    refine o_appendN (j := 0) (T := tInt) (c := coo_0) (LL := oo.counts) (L := (List.replicate wide.toNat (0 : Int))) rfl rfl rfl Try.underlying22 Try.underlying22 (by intro k h; cases h) el37 (by first | omega | (simp only [List.length_cons, List.length_nil]; omega) | (simp only [List.length_append, List.length_cons, List.length_nil, List.length_take, List.length_drop]; omega)) rfl (fun a6_5 c6_5 S6_5 => ?_)
    refine o_nil ?_
    refine h_next (dp (lz (lz (lz (lj (lj (ln))))))) ?_
    refine h_tk (i := 6) (ls := #[T1,T1,T1,T1,T1,T1,T1,F0]) rfl (p_fieldAddr (j' := 1) rfl fo24_1 rfl) (dp (lz (lz (lz (lj (lj (ln))))))) ?_
    refine h_one (i := 7) (ls := #[T1,T1,T1,T1,T1,T1,T1,T1]) (by kernel_rfl) rfl rfl ?_
    refine o_store (i := 2) (v := .slice a6_5 (oo.counts ++ [(List.replicate wide.toNat (0 : Int))]).length (coo_0.push c6_5 oo.counts.length a6_3 wide.toNat).n) (cs' := [Vi oo.wide, .slice a6_5 (oo.counts ++ [(List.replicate wide.toNat (0 : Int))]).length (coo_0.push c6_5 oo.counts.length a6_3 wide.toNat).n]) rfl rfl rfl sz22 rfl rfl rfl ?_
    refine o_nil ?_
    refine h_next (dp (lz (lz (lz (lj (lj (ln))))))) ?_
    refine h_done (by kernel_rfl) ?_
    refine q_kont hK7 (a6_3, S6_4, a6_4, a6_5, c6_5, S6_5) (sr (sr (sr (sr (sr (Sub.nil _)))))) (pk [0, 1, 2, 3, 4])
   ·refine o_makeSlice (T := tInt) (m := wide) (z := (0 : Int)) rfl rfl Try.underlying37 el3 ze3 rfl (by decide) (by omega) (by omega) rfl (fun S6_3 a6_3 => ?_)
    refine o_nil ?_
    refine h_next (dp (lz (lz (lz (lj (lj (ln))))))) ?_
    refine h_two (i := 1) (j := 4) (ls := #[T1,T1,T1,T1,F0,F0,F0,F0]) (ls' := #[T1,F0,T1,T1,T1,F0,F0,F0]) (by kernel_rfl) rfl rfl rfl rfl ?_ ?_
    ·refine o_p (p_load (i := 2) (v := .slice aoo_0 oo.counts.length coo_0.n) rfl rfl sh22 rfl) ?_
     refine o_nil ?_
     refine h_next (dp (lz (lz (lz (lj (lj (ln))))))) ?_
     refine h_one (i := 4) (ls := #[T1,T1,T1,T1,T1,F0,F0,F0]) (by kernel_rfl) rfl rfl ?_
     refine o_buildSlice (m := 1) (T := tHdE) (L := [(⟨a6_3, (List.replicate wide.toNat (0 : Int)).length, wide.toNat⟩ : HdE)]) (vs := [.slice a6_3 (List.replicate wide.toNat (0 : Int)).length wide.toNat]) rfl rfl rfl rfl Try.underlying22 sz37 (by decide) ze37 rfl (by decide) rfl (fun S6_4 a6_4 => ?_)
     refine o_nil ?_
     refine h_next (dp (lz (lz (lz (lz (lj (lj (ln)))))))) ?_
     refine h_one (i := 5) (ls := #[T1,T1,T1,T1,T1,T1,F0,F0]) (by kernel_rfl) rfl rfl ?_
     refine o_pick (H' := [ownN tInt Soo_0 aoo_0 coo_0 oo.counts, own tInt S6_3 a6_3 wide.toNat (List.replicate wide.toNat (0 : Int)), own tHdE S6_4 a6_4 ([(⟨a6_3, (List.replicate wide.toNat (0 : Int)).length, wide.toNat⟩ : HdE)].length) ([(⟨a6_3, (List.replicate wide.toNat (0 : Int)).length, wide.toNat⟩ : HdE)]), box B2 [Vi oo.wide, .slice aoo_0 oo.counts.length coo_0.n] 24, box B1 [Vi 0, .slice none 0 0] 24, base w0]) [2, 1, 0, 3, 4, 5] (by decide) rfl ?_
     refine o_appendN (j := 0) (T := tInt) (c := coo_0) (LL := oo.counts) (L := (List.replicate wide.toNat (0 : Int))) rfl rfl rfl Try.underlying22 Try.underlying22 (by intro k h; cases h) el37 (by first | omega | (simp only [List.length_cons, List.length_nil]; omega) | (simp only [List.length_append, List.length_cons, List.length_nil, List.length_take, List.length_drop]; omega)) rfl (fun a6_5 c6_5 S6_5 => ?_)
     refine o_nil ?_
     refine h_next (dp (lz (lz (lz (lj (lj (ln))))))) ?_
     refine h_tk (i := 6) (ls := #[T1,T1,T1,T1,T1,T1,T1,F0]) rfl (p_fieldAddr (j' := 1) rfl fo24_1 rfl) (dp (lz (lz (lz (lj (lj (ln))))))) ?_
     refine h_one (i := 7) (ls := #[T1,T1,T1,T1,T1,T1,T1,T1]) (by kernel_rfl) rfl rfl ?_
     refine o_store (i := 2) (v := .slice a6_5 (oo.counts ++ [(List.replicate wide.toNat (0 : Int))]).length (coo_0.push c6_5 oo.counts.length a6_3 wide.toNat).n) (cs' := [Vi oo.wide, .slice a6_5 (oo.counts ++ [(List.replicate wide.toNat (0 : Int))]).length (coo_0.push c6_5 oo.counts.length a6_3 wide.toNat).n]) rfl rfl rfl sz22 rfl rfl rfl ?_
     refine o_nil ?_
     refine h_next (dp (lz (lz (lz (lj (lj (ln))))))) ?_
     refine h_done (by kernel_rfl) ?_
     refine q_kont hK7 (a6_3, S6_4, a6_4, a6_5, c6_5, S6_5) (sr (sr (sr (sr (sr (Sub.nil _)))))) (pk [0, 1, 2, 3, 4])
    ·refine o_buildSlice (m := 1) (T := tHdE) (L := [(⟨a6_3, (List.replicate wide.toNat (0 : Int)).length, wide.toNat⟩ : HdE)]) (vs := [.slice a6_3 (List.replicate wide.toNat (0 : Int)).length wide.toNat]) rfl rfl rfl rfl Try.underlying22 sz37 (by decide) ze37 rfl (by decide) rfl (fun S6_4 a6_4 => ?_)
     refine o_nil ?_
     refine h_next (dp (lz (lz (lz (lz (lj (lj (ln)))))))) ?_
     refine h_one (i := 1) (ls := #[T1,T1,T1,T1,T1,F0,F0,F0]) (by kernel_rfl) rfl rfl ?_
     refine o_p (p_load (i := 3) (v := .slice aoo_0 oo.counts.length coo_0.n) rfl rfl sh22 rfl) ?_
     refine o_nil ?_
     refine h_next (dp (lz (lz (lz (lz (lj (lj (ln)))))))) ?_
     refine h_one (i := 5) (ls := #[T1,T1,T1,T1,T1,T1,F0,F0]) (by kernel_rfl) rfl rfl ?_
     refine o_pick (H' := [ownN tInt Soo_0 aoo_0 coo_0 oo.counts, own tInt S6_3 a6_3 wide.toNat (List.replicate wide.toNat (0 : Int)), own tHdE S6_4 a6_4 ([(⟨a6_3, (List.replicate wide.toNat (0 : Int)).length, wide.toNat⟩ : HdE)].length) ([(⟨a6_3, (List.replicate wide.toNat (0 : Int)).length, wide.toNat⟩ : HdE)]), box B2 [Vi oo.wide, .slice aoo_0 oo.counts.length coo_0.n] 24, box B1 [Vi 0, .slice none 0 0] 24, base w0]) [2, 1, 0, 3, 4, 5] (by decide) rfl ?_
     refine o_appendN (j := 0) (T := tInt) (c := coo_0) (LL := oo.counts) (L := (List.replicate wide.toNat (0 : Int))) rfl rfl rfl Try.underlying22 Try.underlying22 (by intro k h; cases h) el37 (by first | omega | (simp only [List.length_cons, List.length_nil]; omega) | (simp only [List.length_append, List.length_cons, List.length_nil, List.length_take, List.length_drop]; omega)) rfl (fun a6_5 c6_5 S6_5 => ?_)
     refine o_nil ?_
     refine h_next (dp (lz (lz (lz (lj (lj (ln))))))) ?_
     refine h_tk (i := 6) (ls := #[T1,T1,T1,T1,T1,T1,T1,F0]) rfl (p_fieldAddr (j' := 1) rfl fo24_1 rfl) (dp (lz (lz (lz (lj (lj (ln))))))) ?_
     refine h_one (i := 7) (ls := #[T1,T1,T1,T1,T1,T1,T1,T1]) (by kernel_rfl) rfl rfl ?_
     refine o_store (i := 2) (v := .slice a6_5 (oo.counts ++ [(List.replicate wide.toNat (0 : Int))]).length (coo_0.push c6_5 oo.counts.length a6_3 wide.toNat).n) (cs' := [Vi oo.wide, .slice a6_5 (oo.counts ++ [(List.replicate wide.toNat (0 : Int))]).length (coo_0.push c6_5 oo.counts.length a6_3 wide.toNat).n]) rfl rfl rfl sz22 rfl rfl rfl ?_
     refine o_nil ?_
     refine h_next (dp (lz (lz (lz (lj (lj (ln))))))) ?_
     refine h_done (by kernel_rfl) ?_
     refine q_kont hK7 (a6_3, S6_4, a6_4, a6_5, c6_5, S6_5) (sr (sr (sr (sr (sr (Sub.nil _)))))) (pk [0, 1, 2, 3, 4])
  rintro ⟨a6_3, S6_4, a6_4, a6_5, c6_5, S6_5⟩
  show SQ _ 22 w0 _ _ [(0, Vi rows), (1, Vi wide), (4, .pointer (some ⟨B1, 0, none⟩)), (5, .pointer (some ⟨B2, 0, none⟩)), (6, Vi (i : Int))] [ownN tInt S6_5 a6_5 (coo_0.push c6_5 oo.counts.length a6_3 wide.toNat) (oo.counts ++ [(List.replicate wide.toNat (0 : Int))]), own tHdE S6_4 a6_4 ([(⟨a6_3, (List.replicate wide.toNat (0 : Int)).length, wide.toNat⟩ : HdE)].length) ([(⟨a6_3, (List.replicate wide.toNat (0 : Int)).length, wide.toNat⟩ : HdE)]), box B2 [Vi oo.wide, .slice a6_5 (oo.counts ++ [(List.replicate wide.toNat (0 : Int))]).length (coo_0.push c6_5 oo.counts.length a6_3 wide.toNat).n] 24, box B1 [Vi 0, .slice none 0 0] 24, base w0]
  refine q_block_normal (q_then ?_)
  refine c_region ?_
  refine o_mv rfl rfl ?_
  refine o_p (p_addb rfl rfl (by omega)) ?_
  refine o_as rfl rfl ?_
  refine o_nil ?_
  refine q_round hK4 (i + 1, (⟨oo.wide, (oo.counts ++ [(List.replicate wide.toNat (0 : Int))])⟩ : DSketch), a6_5, (coo_0.push c6_5 oo.counts.length a6_3 wide.toNat), S6_5) ?_ ?_ ?_ ?_
  ·clear hK4
   exact ⟨by omega, by rw [hI.2, Sk.rep_next]⟩
  ·(try dsimp only); omega
  ·exact sr (sr (sr (sr (sr (Sub.nil _)))))
  ·exact pk [0, 2, 3, 4]
 ·simp only [decide_eq_false_iff_not, Int.not_lt] at hc5
  refine c_exit ?_
  refine q_then_exit (q_then_exit (q_block_exit (q_then ?_)))
  refine c_seq (c_region ?_)
  refine o_p (p_load_agg (i := 1) (vs := [Vi oo.wide, .slice aoo_0 oo.counts.length coo_0.n]) rfl rfl sh24 rfl rfl) ?_
  refine o_storeN (i := 2) (vs := [Vi oo.wide, .slice aoo_0 oo.counts.length coo_0.n]) (cs' := [Vi oo.wide, .slice aoo_0 oo.counts.length coo_0.n]) rfl rfl rfl sz24 rfl rfl rfl rfl ?_
  refine o_nil (q_then (c_ret ?_))
  have hr0 : (oo.wide : Int) = (Sk.empty rows wide).wide := by
   (have hle := hI.1; have he : oo = Sk.empty rows wide := (by rw [hI.2, Sk.empty, show i = rows.toNat by omega]); rw [he])
  have hr1 : (oo.counts : List (List Int)) = (Sk.empty rows wide).counts := by
   (have hle := hI.1; have he : oo = Sk.empty rows wide := (by rw [hI.2, Sk.empty, show i = rows.toNat by omega]); rw [he])
  refine q_endM (p := (aoo_0, coo_0)) Soo_0 (rt1 rfl (r_cell (i := 2) rfl rfl sh24 rfl)) (i := 3) rfl ?_ ?_ ?_
  ·exact (by have hcc := congr (congrArg (fun (y0 : Int) (y1 : List (List Int)) => (.agg #[.int .i64 y0, .slice aoo_0 y1.length coo_0.n] : Value)) hr0) hr1; exact hcc)
  ·exact fun w hw => hw.above (i := 3) (j := 0) (by decide) rfl rfl
  ·intro w hw; exact Eq.mp (congrArg (fun y => SlON tInt _ w aoo_0 coo_0 y) hr1) ((hw.at (i := 0) rfl).here)

set_option maxHeartbeats 8000000 in
set_option maxRecDepth 100000 in
theorem sketchBegun_ok  : Fn0 Try.prog 25 [] (fun _ => True) (.bool true) := by
 refine fn0 (nt := 95) (F0 := []) Try.func25 rfl Try.ntmps25 rfl rfl (fun w0 hpre => ?_)
 refine c_seq (c_region ?_)
 refine o_as rfl rfl ?_
 refine o_nil (q_then (c_seq (c_region ?_)))
 refine o_callM rfl (emptySketch_ok (2 : Int) (8 : Int) (by first | assumption | omega | decide)) hf28 (fun _ _ => trivial) rfl (fun _ _ _ _ ha hA => SlON.agree ha hA) ?_
 rintro ⟨a3, c4⟩ S1
 refine o_know (fun w hw => own_lenN (i := 0) (T := tInt) hw rfl) (fun hlr5 => ?_)
 refine o_callM rfl (sadd_ok (Sk.empty (2 : Int) (8 : Int)) a3 c4 (ByteArray.mk #[97]) (5 : Int)) hf13 (fun w hw => (rd_ownN (i := 0) rfl) w hw) rfl (fun _ _ _ _ ha hA => SlON.agree ha hA) ?_
 rintro ⟨a8, c9⟩ S6
 refine o_know (fun w hw => own_lenN (i := 0) (T := tInt) hw rfl) (fun hlr10 => ?_)
 refine o_mv rfl rfl ?_
 refine o_ex rfl rfl rfl ?_
 refine o_ex rfl rfl rfl ?_
 refine o_alloc ze24 rfl (fun B11 => ?_)
 refine o_storeN (i := 0) (vs := [Vi ((Sk.add (Sk.empty (2 : Int) (8 : Int)) (ByteArray.mk #[97]) (5 : Int)).wide), .slice a8 ((Sk.add (Sk.empty (2 : Int) (8 : Int)) (ByteArray.mk #[97]) (5 : Int)).counts).length c9.n]) (cs' := [Vi ((Sk.add (Sk.empty (2 : Int) (8 : Int)) (ByteArray.mk #[97]) (5 : Int)).wide), .slice a8 ((Sk.add (Sk.empty (2 : Int) (8 : Int)) (ByteArray.mk #[97]) (5 : Int)).counts).length c9.n]) rfl rfl rfl sz24 rfl rfl rfl rfl ?_
 refine o_as rfl rfl ?_
 refine o_nil (q_then (c_seq (c_region ?_)))
 refine o_p (p_load_agg (i := 0) (vs := [Vi ((Sk.add (Sk.empty (2 : Int) (8 : Int)) (ByteArray.mk #[97]) (5 : Int)).wide), .slice a8 ((Sk.add (Sk.empty (2 : Int) (8 : Int)) (ByteArray.mk #[97]) (5 : Int)).counts).length c9.n]) rfl rfl sh24 rfl rfl) ?_
 refine o_call0 (v := .tuple #[Vi (Sk.est (Sk.add (Sk.empty (2 : Int) (8 : Int)) (ByteArray.mk #[97]) (5 : Int)) (ByteArray.mk #[97])), Vi (Sk.keyErr (Sk.add (Sk.empty (2 : Int) (8 : Int)) (ByteArray.mk #[97]) (5 : Int)) (ByteArray.mk #[97]))]) rfl (sest_ok (Sk.add (Sk.empty (2 : Int) (8 : Int)) (ByteArray.mk #[97]) (5 : Int)) a8 c9 (ByteArray.mk #[97])) hf14 (fun w hw => (rd_ownN (i := 1) rfl) w hw) rfl ?_
 refine o_mv rfl rfl ?_
 refine o_ex rfl rfl rfl ?_
 refine o_ex rfl rfl rfl ?_
 refine o_as rfl rfl ?_
 refine o_as rfl rfl ?_
 refine o_nil (q_then (c_seq (c_region ?_)))
 refine o_p (p_load_agg (i := 0) (vs := [Vi ((Sk.add (Sk.empty (2 : Int) (8 : Int)) (ByteArray.mk #[97]) (5 : Int)).wide), .slice a8 ((Sk.add (Sk.empty (2 : Int) (8 : Int)) (ByteArray.mk #[97]) (5 : Int)).counts).length c9.n]) rfl rfl sh24 rfl rfl) ?_
 refine o_p (p_load_agg (i := 0) (vs := [Vi ((Sk.add (Sk.empty (2 : Int) (8 : Int)) (ByteArray.mk #[97]) (5 : Int)).wide), .slice a8 ((Sk.add (Sk.empty (2 : Int) (8 : Int)) (ByteArray.mk #[97]) (5 : Int)).counts).length c9.n]) rfl rfl sh24 rfl rfl) ?_
 refine o_callM rfl (smerge_ok (Sk.add (Sk.empty (2 : Int) (8 : Int)) (ByteArray.mk #[97]) (5 : Int)) a8 c9 (Sk.add (Sk.empty (2 : Int) (8 : Int)) (ByteArray.mk #[97]) (5 : Int)) a8 c9) hf15 (fun w hw => ⟨(rd_ownN (i := 1) rfl) w hw, (rd_ownN (i := 1) rfl) w hw⟩) rfl (fun _ _ _ _ ha hA => SlON.agree ha hA) ?_
 rintro ⟨a14, c15⟩ S12
 refine o_know (fun w hw => own_lenN (i := 0) (T := tInt) hw rfl) (fun hlr16 => ?_)
 refine o_mv rfl rfl ?_
 refine o_ex rfl rfl rfl ?_
 refine o_ex rfl rfl rfl ?_
 refine o_alloc ze24 rfl (fun B17 => ?_)
 refine o_storeN (i := 0) (vs := [Vi ((Sk.merge (Sk.add (Sk.empty (2 : Int) (8 : Int)) (ByteArray.mk #[97]) (5 : Int)) (Sk.add (Sk.empty (2 : Int) (8 : Int)) (ByteArray.mk #[97]) (5 : Int))).wide), .slice a14 ((Sk.merge (Sk.add (Sk.empty (2 : Int) (8 : Int)) (ByteArray.mk #[97]) (5 : Int)) (Sk.add (Sk.empty (2 : Int) (8 : Int)) (ByteArray.mk #[97]) (5 : Int))).counts).length c15.n]) (cs' := [Vi ((Sk.merge (Sk.add (Sk.empty (2 : Int) (8 : Int)) (ByteArray.mk #[97]) (5 : Int)) (Sk.add (Sk.empty (2 : Int) (8 : Int)) (ByteArray.mk #[97]) (5 : Int))).wide), .slice a14 ((Sk.merge (Sk.add (Sk.empty (2 : Int) (8 : Int)) (ByteArray.mk #[97]) (5 : Int)) (Sk.add (Sk.empty (2 : Int) (8 : Int)) (ByteArray.mk #[97]) (5 : Int))).counts).length c15.n]) rfl rfl rfl sz24 rfl rfl rfl rfl ?_
 refine o_as rfl rfl ?_
 refine o_nil (q_then (c_seq (c_region ?_)))
 refine o_p (p_load_agg (i := 0) (vs := [Vi ((Sk.merge (Sk.add (Sk.empty (2 : Int) (8 : Int)) (ByteArray.mk #[97]) (5 : Int)) (Sk.add (Sk.empty (2 : Int) (8 : Int)) (ByteArray.mk #[97]) (5 : Int))).wide), .slice a14 ((Sk.merge (Sk.add (Sk.empty (2 : Int) (8 : Int)) (ByteArray.mk #[97]) (5 : Int)) (Sk.add (Sk.empty (2 : Int) (8 : Int)) (ByteArray.mk #[97]) (5 : Int))).counts).length c15.n]) rfl rfl sh24 rfl rfl) ?_
 refine o_call0 (v := .tuple #[Vi (Sk.total (Sk.merge (Sk.add (Sk.empty (2 : Int) (8 : Int)) (ByteArray.mk #[97]) (5 : Int)) (Sk.add (Sk.empty (2 : Int) (8 : Int)) (ByteArray.mk #[97]) (5 : Int)))), Vi (Sk.check (Sk.merge (Sk.add (Sk.empty (2 : Int) (8 : Int)) (ByteArray.mk #[97]) (5 : Int)) (Sk.add (Sk.empty (2 : Int) (8 : Int)) (ByteArray.mk #[97]) (5 : Int))))]) rfl (stotal_ok (Sk.merge (Sk.add (Sk.empty (2 : Int) (8 : Int)) (ByteArray.mk #[97]) (5 : Int)) (Sk.add (Sk.empty (2 : Int) (8 : Int)) (ByteArray.mk #[97]) (5 : Int))) a14 c15) hf17 (fun w hw => (rd_ownN (i := 1) rfl) w hw) rfl ?_
 refine o_mv rfl rfl ?_
 refine o_ex rfl rfl rfl ?_
 refine o_ex rfl rfl rfl ?_
 refine o_as rfl rfl ?_
 refine o_as rfl rfl ?_
 refine o_nil (q_then (c_seq (c_region ?_)))
 refine o_p (p_load_agg (i := 0) (vs := [Vi ((Sk.merge (Sk.add (Sk.empty (2 : Int) (8 : Int)) (ByteArray.mk #[97]) (5 : Int)) (Sk.add (Sk.empty (2 : Int) (8 : Int)) (ByteArray.mk #[97]) (5 : Int))).wide), .slice a14 ((Sk.merge (Sk.add (Sk.empty (2 : Int) (8 : Int)) (ByteArray.mk #[97]) (5 : Int)) (Sk.add (Sk.empty (2 : Int) (8 : Int)) (ByteArray.mk #[97]) (5 : Int))).counts).length c15.n]) rfl rfl sh24 rfl rfl) ?_
 refine o_callM rfl (shalve_ok (Sk.merge (Sk.add (Sk.empty (2 : Int) (8 : Int)) (ByteArray.mk #[97]) (5 : Int)) (Sk.add (Sk.empty (2 : Int) (8 : Int)) (ByteArray.mk #[97]) (5 : Int))) a14 c15) hf16 (fun w hw => (rd_ownN (i := 1) rfl) w hw) rfl (fun _ _ _ _ ha hA => SlON.agree ha hA) ?_
 rintro ⟨a20, c21⟩ S18
 refine o_know (fun w hw => own_lenN (i := 0) (T := tInt) hw rfl) (fun hlr22 => ?_)
 refine o_mv rfl rfl ?_
 refine o_ex rfl rfl rfl ?_
 refine o_ex rfl rfl rfl ?_
 refine o_alloc ze24 rfl (fun B23 => ?_)
 refine o_storeN (i := 0) (vs := [Vi ((Sk.halve (Sk.merge (Sk.add (Sk.empty (2 : Int) (8 : Int)) (ByteArray.mk #[97]) (5 : Int)) (Sk.add (Sk.empty (2 : Int) (8 : Int)) (ByteArray.mk #[97]) (5 : Int)))).wide), .slice a20 ((Sk.halve (Sk.merge (Sk.add (Sk.empty (2 : Int) (8 : Int)) (ByteArray.mk #[97]) (5 : Int)) (Sk.add (Sk.empty (2 : Int) (8 : Int)) (ByteArray.mk #[97]) (5 : Int)))).counts).length c21.n]) (cs' := [Vi ((Sk.halve (Sk.merge (Sk.add (Sk.empty (2 : Int) (8 : Int)) (ByteArray.mk #[97]) (5 : Int)) (Sk.add (Sk.empty (2 : Int) (8 : Int)) (ByteArray.mk #[97]) (5 : Int)))).wide), .slice a20 ((Sk.halve (Sk.merge (Sk.add (Sk.empty (2 : Int) (8 : Int)) (ByteArray.mk #[97]) (5 : Int)) (Sk.add (Sk.empty (2 : Int) (8 : Int)) (ByteArray.mk #[97]) (5 : Int)))).counts).length c21.n]) rfl rfl rfl sz24 rfl rfl rfl rfl ?_
 refine o_as rfl rfl ?_
 refine o_nil (q_then (c_seq (c_region ?_)))
 refine o_p (p_load_agg (i := 4) (vs := [Vi ((Sk.add (Sk.empty (2 : Int) (8 : Int)) (ByteArray.mk #[97]) (5 : Int)).wide), .slice a8 ((Sk.add (Sk.empty (2 : Int) (8 : Int)) (ByteArray.mk #[97]) (5 : Int)).counts).length c9.n]) rfl rfl sh24 rfl rfl) ?_
 refine o_callM rfl (shalve_ok (Sk.add (Sk.empty (2 : Int) (8 : Int)) (ByteArray.mk #[97]) (5 : Int)) a8 c9) hf16 (fun w hw => (rd_ownN (i := 5) rfl) w hw) rfl (fun _ _ _ _ ha hA => SlON.agree ha hA) ?_
 rintro ⟨a26, c27⟩ S24
 refine o_know (fun w hw => own_lenN (i := 0) (T := tInt) hw rfl) (fun hlr28 => ?_)
 refine o_mv rfl rfl ?_
 refine o_ex rfl rfl rfl ?_
 refine o_ex rfl rfl rfl ?_
 refine o_alloc ze24 rfl (fun B29 => ?_)
 refine o_storeN (i := 0) (vs := [Vi ((Sk.halve (Sk.add (Sk.empty (2 : Int) (8 : Int)) (ByteArray.mk #[97]) (5 : Int))).wide), .slice a26 ((Sk.halve (Sk.add (Sk.empty (2 : Int) (8 : Int)) (ByteArray.mk #[97]) (5 : Int))).counts).length c27.n]) (cs' := [Vi ((Sk.halve (Sk.add (Sk.empty (2 : Int) (8 : Int)) (ByteArray.mk #[97]) (5 : Int))).wide), .slice a26 ((Sk.halve (Sk.add (Sk.empty (2 : Int) (8 : Int)) (ByteArray.mk #[97]) (5 : Int))).counts).length c27.n]) rfl rfl rfl sz24 rfl rfl rfl rfl ?_
 refine o_as rfl rfl ?_
 refine o_nil (q_then (c_seq (c_region ?_)))
 refine o_p (p_load_agg (i := 6) (vs := [Vi ((Sk.add (Sk.empty (2 : Int) (8 : Int)) (ByteArray.mk #[97]) (5 : Int)).wide), .slice a8 ((Sk.add (Sk.empty (2 : Int) (8 : Int)) (ByteArray.mk #[97]) (5 : Int)).counts).length c9.n]) rfl rfl sh24 rfl rfl) ?_
 refine o_callM rfl (sadd_ok (Sk.add (Sk.empty (2 : Int) (8 : Int)) (ByteArray.mk #[97]) (5 : Int)) a8 c9 (ByteArray.mk #[97]) (0 : Int)) hf13 (fun w hw => (rd_ownN (i := 7) rfl) w hw) rfl (fun _ _ _ _ ha hA => SlON.agree ha hA) ?_
 rintro ⟨a32, c33⟩ S30
 refine o_know (fun w hw => own_lenN (i := 0) (T := tInt) hw rfl) (fun hlr34 => ?_)
 refine o_mv rfl rfl ?_
 refine o_ex rfl rfl rfl ?_
 refine o_ex rfl rfl rfl ?_
 refine o_alloc ze24 rfl (fun B35 => ?_)
 refine o_storeN (i := 0) (vs := [Vi ((Sk.add (Sk.add (Sk.empty (2 : Int) (8 : Int)) (ByteArray.mk #[97]) (5 : Int)) (ByteArray.mk #[97]) (0 : Int)).wide), .slice a32 ((Sk.add (Sk.add (Sk.empty (2 : Int) (8 : Int)) (ByteArray.mk #[97]) (5 : Int)) (ByteArray.mk #[97]) (0 : Int)).counts).length c33.n]) (cs' := [Vi ((Sk.add (Sk.add (Sk.empty (2 : Int) (8 : Int)) (ByteArray.mk #[97]) (5 : Int)) (ByteArray.mk #[97]) (0 : Int)).wide), .slice a32 ((Sk.add (Sk.add (Sk.empty (2 : Int) (8 : Int)) (ByteArray.mk #[97]) (5 : Int)) (ByteArray.mk #[97]) (0 : Int)).counts).length c33.n]) rfl rfl rfl sz24 rfl rfl rfl rfl ?_
 refine o_as rfl rfl ?_
 refine o_nil (q_then (c_seq (c_region ?_)))
 refine o_mv rfl rfl ?_
 refine o_p (p_eq rfl rfl) ?_
 refine o_mv rfl rfl ?_
 refine o_and (p := 56) 3 ((Sk.est (Sk.add (Sk.empty (2 : Int) (8 : Int)) (ByteArray.mk #[97]) (5 : Int)) (ByteArray.mk #[97])) == 5) ?_ ?_ ?_
 ·intro hb36 hk
  simp only [beq_iff_eq] at hb36
  refine o_unguard 53 rfl rfl ?_
  refine o_mv rfl rfl ?_
  refine o_unguard 53 rfl rfl ?_
  refine o_p (p_eq rfl rfl) ?_
  refine o_pt rfl rfl rfl ?_
  exact o_sub (sr (Sub.skip rfl (Sub.skip rfl (Sub.skip rfl (Sub.skip rfl (Sub.refl _)))))) hk
 ·intro hb36 hk
  refine o_guard_no rfl 53 rfl rfl rfl rfl rfl ?_
  refine o_guard_no rfl 53 rfl rfl rfl rfl rfl ?_
  refine o_pf rfl rfl rfl ?_
  exact o_sub (sr (Sub.skip rfl (Sub.skip rfl (Sub.skip rfl (Sub.skip rfl (Sub.refl _)))))) hk
 refine o_mv rfl rfl ?_
 refine o_and (p := 60) 3 ((Sk.keyErr (Sk.add (Sk.empty (2 : Int) (8 : Int)) (ByteArray.mk #[97]) (5 : Int)) (ByteArray.mk #[97])) == 0) ?_ ?_ ?_
 ·intro hb37 hk
  simp only [Bool.and_eq_true, beq_iff_eq] at hb37
  refine o_unguard 57 rfl rfl ?_
  refine o_mv rfl rfl ?_
  refine o_unguard 57 rfl rfl ?_
  refine o_p (p_eq rfl rfl) ?_
  refine o_pt rfl rfl rfl ?_
  exact o_sub (sr (Sub.skip rfl (Sub.skip rfl (Sub.skip rfl (Sub.skip rfl (Sub.refl _)))))) hk
 ·intro hb37 hk
  refine o_guard_no rfl 57 rfl rfl rfl rfl rfl ?_
  refine o_guard_no rfl 57 rfl rfl rfl rfl rfl ?_
  refine o_pf rfl rfl rfl ?_
  exact o_sub (sr (Sub.skip rfl (Sub.skip rfl (Sub.skip rfl (Sub.skip rfl (Sub.refl _)))))) hk
 refine o_mv rfl rfl ?_
 refine o_and (p := 64) 3 ((Sk.mrgErr (Sk.add (Sk.empty (2 : Int) (8 : Int)) (ByteArray.mk #[97]) (5 : Int)) (Sk.add (Sk.empty (2 : Int) (8 : Int)) (ByteArray.mk #[97]) (5 : Int))) == 0) ?_ ?_ ?_
 ·intro hb38 hk
  simp only [Bool.and_eq_true, beq_iff_eq] at hb38
  refine o_unguard 61 rfl rfl ?_
  refine o_mv rfl rfl ?_
  refine o_unguard 61 rfl rfl ?_
  refine o_p (p_eq rfl rfl) ?_
  refine o_pt rfl rfl rfl ?_
  exact o_sub (sr (Sub.skip rfl (Sub.skip rfl (Sub.skip rfl (Sub.skip rfl (Sub.refl _)))))) hk
 ·intro hb38 hk
  refine o_guard_no rfl 61 rfl rfl rfl rfl rfl ?_
  refine o_guard_no rfl 61 rfl rfl rfl rfl rfl ?_
  refine o_pf rfl rfl rfl ?_
  exact o_sub (sr (Sub.skip rfl (Sub.skip rfl (Sub.skip rfl (Sub.skip rfl (Sub.refl _)))))) hk
 refine o_mv rfl rfl ?_
 refine o_and (p := 68) 3 ((Sk.total (Sk.merge (Sk.add (Sk.empty (2 : Int) (8 : Int)) (ByteArray.mk #[97]) (5 : Int)) (Sk.add (Sk.empty (2 : Int) (8 : Int)) (ByteArray.mk #[97]) (5 : Int)))) == 10) ?_ ?_ ?_
 ·intro hb39 hk
  simp only [Bool.and_eq_true, beq_iff_eq] at hb39
  refine o_unguard 65 rfl rfl ?_
  refine o_mv rfl rfl ?_
  refine o_unguard 65 rfl rfl ?_
  refine o_p (p_eq rfl rfl) ?_
  refine o_pt rfl rfl rfl ?_
  exact o_sub (sr (Sub.skip rfl (Sub.skip rfl (Sub.skip rfl (Sub.skip rfl (Sub.refl _)))))) hk
 ·intro hb39 hk
  refine o_guard_no rfl 65 rfl rfl rfl rfl rfl ?_
  refine o_guard_no rfl 65 rfl rfl rfl rfl rfl ?_
  refine o_pf rfl rfl rfl ?_
  exact o_sub (sr (Sub.skip rfl (Sub.skip rfl (Sub.skip rfl (Sub.skip rfl (Sub.refl _)))))) hk
 refine o_mv rfl rfl ?_
 refine o_and (p := 72) 3 ((Sk.check (Sk.merge (Sk.add (Sk.empty (2 : Int) (8 : Int)) (ByteArray.mk #[97]) (5 : Int)) (Sk.add (Sk.empty (2 : Int) (8 : Int)) (ByteArray.mk #[97]) (5 : Int)))) == 0) ?_ ?_ ?_
 ·intro hb40 hk
  simp only [Bool.and_eq_true, beq_iff_eq] at hb40
  refine o_unguard 69 rfl rfl ?_
  refine o_mv rfl rfl ?_
  refine o_unguard 69 rfl rfl ?_
  refine o_p (p_eq rfl rfl) ?_
  refine o_pt rfl rfl rfl ?_
  exact o_sub (sr (Sub.skip rfl (Sub.skip rfl (Sub.skip rfl (Sub.skip rfl (Sub.refl _)))))) hk
 ·intro hb40 hk
  refine o_guard_no rfl 69 rfl rfl rfl rfl rfl ?_
  refine o_guard_no rfl 69 rfl rfl rfl rfl rfl ?_
  refine o_pf rfl rfl rfl ?_
  exact o_sub (sr (Sub.skip rfl (Sub.skip rfl (Sub.skip rfl (Sub.skip rfl (Sub.refl _)))))) hk
 refine o_mv rfl rfl ?_
 refine o_and (p := 77) 4 (decide ((Sk.halve (Sk.merge (Sk.add (Sk.empty (2 : Int) (8 : Int)) (ByteArray.mk #[97]) (5 : Int)) (Sk.add (Sk.empty (2 : Int) (8 : Int)) (ByteArray.mk #[97]) (5 : Int)))) = (Sk.add (Sk.empty (2 : Int) (8 : Int)) (ByteArray.mk #[97]) (5 : Int)))) ?_ ?_ ?_
 ·intro hb41 hk
  simp only [Bool.and_eq_true, beq_iff_eq] at hb41
  refine o_unguard 73 rfl rfl ?_
  refine o_p (p_load_agg (i := 4) (vs := [Vi ((Sk.halve (Sk.merge (Sk.add (Sk.empty (2 : Int) (8 : Int)) (ByteArray.mk #[97]) (5 : Int)) (Sk.add (Sk.empty (2 : Int) (8 : Int)) (ByteArray.mk #[97]) (5 : Int)))).wide), .slice a20 ((Sk.halve (Sk.merge (Sk.add (Sk.empty (2 : Int) (8 : Int)) (ByteArray.mk #[97]) (5 : Int)) (Sk.add (Sk.empty (2 : Int) (8 : Int)) (ByteArray.mk #[97]) (5 : Int)))).counts).length c21.n]) rfl rfl sh24 rfl rfl) ?_
  refine o_unguard 73 rfl rfl ?_
  refine o_p (p_load_agg (i := 8) (vs := [Vi ((Sk.add (Sk.empty (2 : Int) (8 : Int)) (ByteArray.mk #[97]) (5 : Int)).wide), .slice a8 ((Sk.add (Sk.empty (2 : Int) (8 : Int)) (ByteArray.mk #[97]) (5 : Int)).counts).length c9.n]) rfl rfl sh24 rfl rfl) ?_
  refine o_unguard 73 rfl rfl ?_
  refine o_call0 (v := .bool (decide ((Sk.halve (Sk.merge (Sk.add (Sk.empty (2 : Int) (8 : Int)) (ByteArray.mk #[97]) (5 : Int)) (Sk.add (Sk.empty (2 : Int) (8 : Int)) (ByteArray.mk #[97]) (5 : Int)))) = (Sk.add (Sk.empty (2 : Int) (8 : Int)) (ByteArray.mk #[97]) (5 : Int))))) rfl (sameSketch_ok (Sk.halve (Sk.merge (Sk.add (Sk.empty (2 : Int) (8 : Int)) (ByteArray.mk #[97]) (5 : Int)) (Sk.add (Sk.empty (2 : Int) (8 : Int)) (ByteArray.mk #[97]) (5 : Int)))) a20 c21 (Sk.add (Sk.empty (2 : Int) (8 : Int)) (ByteArray.mk #[97]) (5 : Int)) a8 c9) hf27 (fun w hw => ⟨(rd_ownN (i := 5) rfl) w hw, (rd_ownN (i := 9) rfl) w hw⟩) rfl ?_
  refine o_pt rfl rfl rfl ?_
  exact o_sub (sr (Sub.skip rfl (Sub.skip rfl (Sub.skip rfl (Sub.skip rfl (Sub.skip rfl (Sub.refl _))))))) hk
 ·intro hb41 hk
  refine o_guard_no rfl 73 rfl rfl rfl rfl rfl ?_
  refine o_guard_no rfl 73 rfl rfl rfl rfl rfl ?_
  refine o_guard_no rfl 73 rfl rfl rfl rfl rfl ?_
  refine o_pf rfl rfl rfl ?_
  exact o_sub (sr (Sub.skip rfl (Sub.skip rfl (Sub.skip rfl (Sub.skip rfl (Sub.skip rfl (Sub.refl _))))))) hk
 refine o_mv rfl rfl ?_
 refine o_and (p := 81) 3 ((Sk.halfErr (Sk.merge (Sk.add (Sk.empty (2 : Int) (8 : Int)) (ByteArray.mk #[97]) (5 : Int)) (Sk.add (Sk.empty (2 : Int) (8 : Int)) (ByteArray.mk #[97]) (5 : Int)))) == 0) ?_ ?_ ?_
 ·intro hb42 hk
  simp only [Bool.and_eq_true, beq_iff_eq, decide_eq_true_eq] at hb42
  refine o_unguard 78 rfl rfl ?_
  refine o_mv rfl rfl ?_
  refine o_unguard 78 rfl rfl ?_
  refine o_p (p_eq rfl rfl) ?_
  refine o_pt rfl rfl rfl ?_
  exact o_sub (sr (Sub.skip rfl (Sub.skip rfl (Sub.skip rfl (Sub.skip rfl (Sub.refl _)))))) hk
 ·intro hb42 hk
  refine o_guard_no rfl 78 rfl rfl rfl rfl rfl ?_
  refine o_guard_no rfl 78 rfl rfl rfl rfl rfl ?_
  refine o_pf rfl rfl rfl ?_
  exact o_sub (sr (Sub.skip rfl (Sub.skip rfl (Sub.skip rfl (Sub.skip rfl (Sub.refl _)))))) hk
 refine o_mv rfl rfl ?_
 refine o_and (p := 85) 3 ((Sk.halfErr (Sk.add (Sk.empty (2 : Int) (8 : Int)) (ByteArray.mk #[97]) (5 : Int))) == 0) ?_ ?_ ?_
 ·intro hb43 hk
  simp only [Bool.and_eq_true, beq_iff_eq, decide_eq_true_eq] at hb43
  refine o_unguard 82 rfl rfl ?_
  refine o_mv rfl rfl ?_
  refine o_unguard 82 rfl rfl ?_
  refine o_p (p_eq rfl rfl) ?_
  refine o_pt rfl rfl rfl ?_
  exact o_sub (sr (Sub.skip rfl (Sub.skip rfl (Sub.skip rfl (Sub.skip rfl (Sub.refl _)))))) hk
 ·intro hb43 hk
  refine o_guard_no rfl 82 rfl rfl rfl rfl rfl ?_
  refine o_guard_no rfl 82 rfl rfl rfl rfl rfl ?_
  refine o_pf rfl rfl rfl ?_
  exact o_sub (sr (Sub.skip rfl (Sub.skip rfl (Sub.skip rfl (Sub.skip rfl (Sub.refl _)))))) hk
 refine o_mv rfl rfl ?_
 refine o_and (p := 89) 3 ((Sk.addErr (Sk.add (Sk.empty (2 : Int) (8 : Int)) (ByteArray.mk #[97]) (5 : Int)) (ByteArray.mk #[97]) (0 : Int)) == 3) ?_ ?_ ?_
 ·intro hb44 hk
  simp only [Bool.and_eq_true, beq_iff_eq, decide_eq_true_eq] at hb44
  refine o_unguard 86 rfl rfl ?_
  refine o_mv rfl rfl ?_
  refine o_unguard 86 rfl rfl ?_
  refine o_p (p_eq rfl rfl) ?_
  refine o_pt rfl rfl rfl ?_
  exact o_sub (sr (Sub.skip rfl (Sub.skip rfl (Sub.skip rfl (Sub.skip rfl (Sub.refl _)))))) hk
 ·intro hb44 hk
  refine o_guard_no rfl 86 rfl rfl rfl rfl rfl ?_
  refine o_guard_no rfl 86 rfl rfl rfl rfl rfl ?_
  refine o_pf rfl rfl rfl ?_
  exact o_sub (sr (Sub.skip rfl (Sub.skip rfl (Sub.skip rfl (Sub.skip rfl (Sub.refl _)))))) hk
 refine o_mv rfl rfl ?_
 refine o_and (p := 94) 4 ((Sk.check (⟨0, []⟩ : DSketch)) == 1) ?_ ?_ ?_
 ·intro hb45 hk
  simp only [Bool.and_eq_true, beq_iff_eq, decide_eq_true_eq] at hb45
  refine o_unguard 90 rfl rfl ?_
  refine o_p (p_build (cells := [Vi 0, .slice none 0 0]) fp24 ze24 rfl rfl) ?_
  refine o_unguard 90 rfl rfl ?_
  refine o_call0 (v := Vi (Sk.check (⟨0, []⟩ : DSketch))) rfl (scheck_ok (⟨0, []⟩ : DSketch) none nc0) hf26 (fun w hw => rd_nilN w hw) rfl ?_
  refine o_unguard 90 rfl rfl ?_
  refine o_p (p_eq rfl rfl) ?_
  refine o_pt rfl rfl rfl ?_
  exact o_sub (sr (Sub.skip rfl (Sub.skip rfl (Sub.skip rfl (Sub.skip rfl (Sub.skip rfl (Sub.refl _))))))) hk
 ·intro hb45 hk
  refine o_guard_no rfl 90 rfl rfl rfl rfl rfl ?_
  refine o_guard_no rfl 90 rfl rfl rfl rfl rfl ?_
  refine o_guard_no rfl 90 rfl rfl rfl rfl rfl ?_
  refine o_pf rfl rfl rfl ?_
  exact o_sub (sr (Sub.skip rfl (Sub.skip rfl (Sub.skip rfl (Sub.skip rfl (Sub.skip rfl (Sub.refl _))))))) hk
 refine o_as rfl rfl ?_
 refine o_nil (q_then (c_ret ?_))
 have hr0 : (((((((((((((Sk.addErr (Sk.empty (2 : Int) (8 : Int)) (ByteArray.mk #[97]) (5 : Int)) == 0) && ((Sk.est (Sk.add (Sk.empty (2 : Int) (8 : Int)) (ByteArray.mk #[97]) (5 : Int)) (ByteArray.mk #[97])) == 5)) && ((Sk.keyErr (Sk.add (Sk.empty (2 : Int) (8 : Int)) (ByteArray.mk #[97]) (5 : Int)) (ByteArray.mk #[97])) == 0)) && ((Sk.mrgErr (Sk.add (Sk.empty (2 : Int) (8 : Int)) (ByteArray.mk #[97]) (5 : Int)) (Sk.add (Sk.empty (2 : Int) (8 : Int)) (ByteArray.mk #[97]) (5 : Int))) == 0)) && ((Sk.total (Sk.merge (Sk.add (Sk.empty (2 : Int) (8 : Int)) (ByteArray.mk #[97]) (5 : Int)) (Sk.add (Sk.empty (2 : Int) (8 : Int)) (ByteArray.mk #[97]) (5 : Int)))) == 10)) && ((Sk.check (Sk.merge (Sk.add (Sk.empty (2 : Int) (8 : Int)) (ByteArray.mk #[97]) (5 : Int)) (Sk.add (Sk.empty (2 : Int) (8 : Int)) (ByteArray.mk #[97]) (5 : Int)))) == 0)) && (decide ((Sk.halve (Sk.merge (Sk.add (Sk.empty (2 : Int) (8 : Int)) (ByteArray.mk #[97]) (5 : Int)) (Sk.add (Sk.empty (2 : Int) (8 : Int)) (ByteArray.mk #[97]) (5 : Int)))) = (Sk.add (Sk.empty (2 : Int) (8 : Int)) (ByteArray.mk #[97]) (5 : Int))))) && ((Sk.halfErr (Sk.merge (Sk.add (Sk.empty (2 : Int) (8 : Int)) (ByteArray.mk #[97]) (5 : Int)) (Sk.add (Sk.empty (2 : Int) (8 : Int)) (ByteArray.mk #[97]) (5 : Int)))) == 0)) && ((Sk.halfErr (Sk.add (Sk.empty (2 : Int) (8 : Int)) (ByteArray.mk #[97]) (5 : Int))) == 0)) && ((Sk.addErr (Sk.add (Sk.empty (2 : Int) (8 : Int)) (ByteArray.mk #[97]) (5 : Int)) (ByteArray.mk #[97]) (0 : Int)) == 3)) && ((Sk.check (⟨0, []⟩ : DSketch)) == 1)) : Bool) = true := by
  first | rfl | decide +kernel
 refine q_end0 (v := .bool ((((((((((((Sk.addErr (Sk.empty (2 : Int) (8 : Int)) (ByteArray.mk #[97]) (5 : Int)) == 0) && ((Sk.est (Sk.add (Sk.empty (2 : Int) (8 : Int)) (ByteArray.mk #[97]) (5 : Int)) (ByteArray.mk #[97])) == 5)) && ((Sk.keyErr (Sk.add (Sk.empty (2 : Int) (8 : Int)) (ByteArray.mk #[97]) (5 : Int)) (ByteArray.mk #[97])) == 0)) && ((Sk.mrgErr (Sk.add (Sk.empty (2 : Int) (8 : Int)) (ByteArray.mk #[97]) (5 : Int)) (Sk.add (Sk.empty (2 : Int) (8 : Int)) (ByteArray.mk #[97]) (5 : Int))) == 0)) && ((Sk.total (Sk.merge (Sk.add (Sk.empty (2 : Int) (8 : Int)) (ByteArray.mk #[97]) (5 : Int)) (Sk.add (Sk.empty (2 : Int) (8 : Int)) (ByteArray.mk #[97]) (5 : Int)))) == 10)) && ((Sk.check (Sk.merge (Sk.add (Sk.empty (2 : Int) (8 : Int)) (ByteArray.mk #[97]) (5 : Int)) (Sk.add (Sk.empty (2 : Int) (8 : Int)) (ByteArray.mk #[97]) (5 : Int)))) == 0)) && (decide ((Sk.halve (Sk.merge (Sk.add (Sk.empty (2 : Int) (8 : Int)) (ByteArray.mk #[97]) (5 : Int)) (Sk.add (Sk.empty (2 : Int) (8 : Int)) (ByteArray.mk #[97]) (5 : Int)))) = (Sk.add (Sk.empty (2 : Int) (8 : Int)) (ByteArray.mk #[97]) (5 : Int))))) && ((Sk.halfErr (Sk.merge (Sk.add (Sk.empty (2 : Int) (8 : Int)) (ByteArray.mk #[97]) (5 : Int)) (Sk.add (Sk.empty (2 : Int) (8 : Int)) (ByteArray.mk #[97]) (5 : Int)))) == 0)) && ((Sk.halfErr (Sk.add (Sk.empty (2 : Int) (8 : Int)) (ByteArray.mk #[97]) (5 : Int))) == 0)) && ((Sk.addErr (Sk.add (Sk.empty (2 : Int) (8 : Int)) (ByteArray.mk #[97]) (5 : Int)) (ByteArray.mk #[97]) (0 : Int)) == 3)) && ((Sk.check (⟨0, []⟩ : DSketch)) == 1))) (rt1 rfl (r_tmp rfl)) (i := 11) rfl ?_
 exact (by have hcc := congrArg (fun (y0 : Bool) => (.bool y0 : Value)) hr0; exact hcc)
end Go.Proofs.Ytnmbkopnopaigaa
