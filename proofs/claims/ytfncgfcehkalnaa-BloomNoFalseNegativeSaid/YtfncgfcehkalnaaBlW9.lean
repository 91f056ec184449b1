/- The walks, printed by a program from the translation and a specification. -/
import Derived.Test.YtfncgfcehkalnaaBlF
import Derived.Test.YtfncgfcehkalnaaBlLaw
import Derived.Test.YtfncgfcehkalnaaBlW7
import Derived.Test.YtfncgfcehkalnaaBlLaw3
namespace Go.Proofs.Ytfncgfcehkalnaa
open Go.Sx Go.RowKit
set_option maxHeartbeats 8000000 in
set_option maxRecDepth 100000 in
theorem bloomNoFalseNegative_ok (f : DFilter) (af_0 : Option Addr) (cf_0 : Nat) (l : List ByteArray) (al : Option Addr) (cl : Nat) (i : Int) : Fn0 Try.prog 4 [.agg #[Vi f.size, Vi f.hashes, .slice af_0 f.set.length cf_0], .slice al l.length cl, Vi i] (fun w => Rd tInt w af_0 cf_0 f.set ∧ Rd tStr w al cl l) (.bool true) := by
 refine fn0 (nt := 57) (F0 := [(0, .agg #[Vi f.size, Vi f.hashes, .slice af_0 f.set.length cf_0]), (1, .slice al l.length cl), (2, Vi i)]) Try.func4 rfl Try.ntmps4 rfl rfl (fun w0 hpre => ?_)
 obtain ⟨hf_0, hl⟩ := hpre
 have hlhf_0 := hf_0.2.1
 have hlhl := hl.2.1
 refine c_seq (c_region ?_)
 refine o_box (v := .agg #[Vi f.size, Vi f.hashes, .slice af_0 f.set.length cf_0]) rfl rfl (fun B1 => ?_)
 refine o_as rfl rfl ?_
 refine o_nil (q_then (c_seq (c_seq (c_region ?_))))
 refine o_call0 (v := .bool true) rfl (bloomBegun_ok ) hf20 (fun _ _ => trivial) rfl ?_
 refine o_p (p_not (b := true) rfl) ?_
 refine o_nil (q_then ?_)
 refine c_false rfl ?_
 refine c_skip (q_then (c_seq (c_seq (c_region ?_))))
 refine o_as rfl rfl ?_
 refine o_nil (q_then (c_block ?_))
 refine c_heap (H' := [loose tInt (af_0 = af_0 ∧ cf_0 = cf_0 ∧ f.set = f.set) (fun _ => False) af_0 cf_0 f.set, box B1 [Vi f.size, Vi f.hashes, .slice af_0 f.set.length cf_0] 24, base w0]) (fun w hw => HeapIs.looseOf ⟨rfl, rfl, rfl⟩ hw) ?_
 refine c_loop (St := Nat × DFilter × Option Addr × Nat × (Nat → Prop))
  (fun ⟨k, ff, aff_0, cff_0, Sff_0⟩ => [(1, .slice al l.length cl), (2, Vi i), (3, .pointer (some ⟨B1, 0, none⟩)), (7, Vi (k : Int))])
  (fun ⟨k, ff, aff_0, cff_0, Sff_0⟩ => [loose tInt (aff_0 = af_0 ∧ cff_0 = cf_0 ∧ ff.set = f.set) Sff_0 aff_0 cff_0 ff.set, box B1 [Vi ff.size, Vi ff.hashes, .slice aff_0 ff.set.length cff_0] 24, base w0])
  (fun ⟨k, ff, aff_0, cff_0, Sff_0⟩ => Bl.NF l ff k)
  (fun ⟨k, ff, aff_0, cff_0, Sff_0⟩ => l.length - k)
  (0, f, af_0, cf_0, (fun _ => False)) ?_ (sr (sr (sr (sr (Sub.nil _))))) (fun _ hw => hw) ?_
 ·exact Bl.NF.start l f
 rintro ⟨k, ff, aff_0, cff_0, Sff_0⟩ hI K hK3
 have hle := hI.le
 show SC _ _ Try.prog 57 w0 _ _ [(1, .slice al l.length cl), (2, Vi i), (3, .pointer (some ⟨B1, 0, none⟩)), (7, Vi (k : Int))] [loose tInt (aff_0 = af_0 ∧ cff_0 = cf_0 ∧ ff.set = f.set) Sff_0 aff_0 cff_0 ff.set, box B1 [Vi ff.size, Vi ff.hashes, .slice aff_0 ff.set.length cff_0] 24, base w0]
 refine c_seq (c_seq (c_region ?_))
 refine o_mv rfl rfl ?_
 refine o_mv rfl rfl ?_
 refine o_p (p_len_slice rfl rfl Try.underlying42) ?_
 refine o_p (p_lt rfl rfl) ?_
 refine o_nil (q_then ?_)
 refine c_cond rfl (fun hc4 => ?_) (fun hc4 => ?_)
 ·simp only [decide_eq_true_eq] at hc4
  refine c_skip (q_then (c_seq (c_block (c_seq ?_))))
  refine c_cut (G := (Nat → Prop) × Option Addr × Nat × Nat) (fun ⟨S5_5, a5_5, c5_5, B5_9⟩ => [(1, .slice al l.length cl), (2, Vi i), (3, .pointer (some ⟨B1, 0, none⟩)), (7, Vi (k : Int)), (8, .pointer (some ⟨B5_9, 0, none⟩)), (9, Vi (Bl.keyErr ff (l.getD k default)))]) (fun ⟨S5_5, a5_5, c5_5, B5_9⟩ => [box B5_9 [Vi ((Bl.add ff (l.getD k default)).size), Vi ((Bl.add ff (l.getD k default)).hashes), .slice a5_5 ((Bl.add ff (l.getD k default)).set).length c5_5] 24, own tInt S5_5 a5_5 c5_5 ((Bl.add ff (l.getD k default)).set), loose tInt (aff_0 = af_0 ∧ cff_0 = cf_0 ∧ ff.set = f.set) Sff_0 aff_0 cff_0 ff.set, box B1 [Vi ff.size, Vi ff.hashes, .slice aff_0 ff.set.length cff_0] 24, base w0]) (fun K hK6 => ?_) ?_
  ·refine c_held hmix [loose tInt (aff_0 = af_0 ∧ cff_0 = cf_0 ∧ ff.set = f.set) Sff_0 aff_0 cff_0 ff.set, box B1 [Vi ff.size, Vi ff.hashes, .slice aff_0 ff.set.length cff_0] 24, base w0] rfl rfl ?_
   refine h_t0 (i := 0) (ls := #[T1,F0,F0,F0,F0,F0,F0,F0,F0,F0,F0,F0]) rfl (p_load_agg (i := 1) (vs := [Vi ff.size, Vi ff.hashes, .slice aff_0 ff.set.length cff_0]) rfl rfl sh24 rfl rfl) ?_
   refine h_t0 (i := 1) (ls := #[T1,T1,F0,F0,F0,F0,F0,F0,F0,F0,F0,F0]) rfl (p_move rfl) ?_
   refine h_t0 (i := 2) (ls := #[T1,T1,T1,F0,F0,F0,F0,F0,F0,F0,F0,F0]) rfl (p_move rfl) ?_
   refine h_t0 (i := 3) (ls := #[T1,T1,T1,T1,F0,F0,F0,F0,F0,F0,F0,F0]) rfl (p_indexAddr (L := l) (T := tStr) (i := (k : Int)) rfl rfl (rd_base (i := 2) rfl hl) Try.underlying42 sz9 (by omega) (by omega)) ?_
   refine h_t0 (i := 4) (ls := #[T1,T1,T1,T1,T1,F0,F0,F0,F0,F0,F0,F0]) rfl (p_loadE1 (i := k) (T := tStr) (L := l) (v := .string (l.getD k default)) rfl (rd_base (i := 2) rfl hl) (by first | assumption | omega) sh9 (congrArg tStr.enc (getd_at (by first | assumption | omega) default))) ?_
   refine h_two (i := 5) (j := 9) (ls := #[T1,T1,T1,T1,T1,T1,F0,F0,F0,F0,F0,F0]) (ls' := #[T1,T1,T1,T1,T1,F0,F0,F0,F0,T1,F0,F0]) (by kernel_rfl) rfl rfl rfl rfl ?_ ?_
   ·refine o_callM rfl (badd_ok ff aff_0 cff_0 (l.getD k default)) hf11 (fun w hw => (rd_loose (i := 0) rfl (fun hφ => by obtain ⟨h1, h2, h3⟩ := hφ; intro w hw; have g1 : aff_0 = af_0 := h1; have g2 : cff_0 = cf_0 := h2; have g3 : ff.set = f.set := h3; rw [g1, g2, g3]; exact (rd_base (i := 2) rfl hf_0) w hw)) w hw) rfl (fun _ _ _ _ ha hA => SlO.agree ha hA) ?_
    rintro ⟨a5_5, c5_5⟩ S5_5
    refine o_know (fun w hw => own_len (i := 0) (T := tInt) hw rfl) (fun hlr5_5 => ?_)
    refine o_nil ?_
    refine h_next (dp (lz (lj (lj (lj (ln)))))) ?_
    refine h_tk (i := 6) (ls := #[T1,T1,T1,T1,T1,T1,T1,F0,F0,F0,F0,F0]) rfl (p_move rfl) (dp (lz (lj (lj (lj (ln)))))) ?_
    refine h_tk (i := 7) (ls := #[T1,T1,T1,T1,T1,T1,T1,T1,F0,F0,F0,F0]) rfl (p_extract rfl rfl) (dp (lz (lj (lj (lj (ln)))))) ?_
    refine h_tk (i := 8) (ls := #[T1,T1,T1,T1,T1,T1,T1,T1,T1,F0,F0,F0]) rfl (p_extract rfl rfl) (dp (lz (lj (lj (lj (ln)))))) ?_
    refine h_one (i := 9) (ls := #[T1,T1,T1,T1,T1,T1,T1,T1,T1,T1,F0,F0]) (by kernel_rfl) rfl rfl ?_
    refine o_alloc ze24 rfl (fun B5_9 => ?_)
    refine o_nil ?_
    refine h_next (dp (lz (lz (lj (lj (lj (ln))))))) ?_
    refine h_one (i := 10) (ls := #[T1,T1,T1,T1,T1,T1,T1,T1,T1,T1,T1,F0]) (by kernel_rfl) rfl rfl ?_
    refine o_storeN (i := 0) (vs := [Vi ((Bl.add ff (l.getD k default)).size), Vi ((Bl.add ff (l.getD k default)).hashes), .slice a5_5 ((Bl.add ff (l.getD k default)).set).length c5_5]) (cs' := [Vi ((Bl.add ff (l.getD k default)).size), Vi ((Bl.add ff (l.getD k default)).hashes), .slice a5_5 ((Bl.add ff (l.getD k default)).set).length c5_5]) rfl rfl rfl sz24 rfl rfl rfl rfl ?_
    refine o_nil ?_
    refine h_next (dp (lz (lz (lj (lj (lj (ln))))))) ?_
    refine h_tk (i := 11) (ls := #[T1,T1,T1,T1,T1,T1,T1,T1,T1,T1,T1,T1]) rfl (p_assign rfl) (dp (lz (lz (lj (lj (lj (ln))))))) ?_
    refine h_done (by kernel_rfl) ?_
    refine q_kont hK6 (S5_5, a5_5, c5_5, B5_9) (sr (sr (sr (sr (sr (sr (Sub.nil _))))))) (pk [0, 1, 2, 3, 4])
   ·refine o_alloc ze24 rfl (fun B5_9 => ?_)
    refine o_nil ?_
    refine h_next (dp (lz (lj (lj (lj (ln)))))) ?_
    refine h_one (i := 5) (ls := #[T1,T1,T1,T1,T1,T1,F0,F0,F0,T1,F0,F0]) (by kernel_rfl) rfl rfl ?_
    refine o_callM rfl (badd_ok ff aff_0 cff_0 (l.getD k default)) hf11 (fun w hw => (rd_loose (i := 1) rfl (fun hφ => by obtain ⟨h1, h2, h3⟩ := hφ; intro w hw; have g1 : aff_0 = af_0 := h1; have g2 : cff_0 = cf_0 := h2; have g3 : ff.set = f.set := h3; rw [g1, g2, g3]; exact (rd_base (i := 3) rfl hf_0) w hw)) w hw) rfl (fun _ _ _ _ ha hA => SlO.agree ha hA) ?_
    rintro ⟨a5_5, c5_5⟩ S5_5
    refine o_know (fun w hw => own_len (i := 0) (T := tInt) hw rfl) (fun hlr5_5 => ?_)
    refine o_nil ?_
    refine h_next (dp (lz (lz (lj (lj (lj (ln))))))) ?_
    refine h_tk (i := 6) (ls := #[T1,T1,T1,T1,T1,T1,T1,F0,F0,T1,F0,F0]) rfl (p_move rfl) (dp (lz (lz (lj (lj (lj (ln))))))) ?_
    refine h_tk (i := 7) (ls := #[T1,T1,T1,T1,T1,T1,T1,T1,F0,T1,F0,F0]) rfl (p_extract rfl rfl) (dp (lz (lz (lj (lj (lj (ln))))))) ?_
    refine h_tk (i := 8) (ls := #[T1,T1,T1,T1,T1,T1,T1,T1,T1,T1,F0,F0]) rfl (p_extract rfl rfl) (dp (lz (lz (lj (lj (lj (ln))))))) ?_
    refine h_one (i := 10) (ls := #[T1,T1,T1,T1,T1,T1,T1,T1,T1,T1,T1,F0]) (by kernel_rfl) rfl rfl ?_
    refine o_storeN (i := 1) (vs := [Vi ((Bl.add ff (l.getD k default)).size), Vi ((Bl.add ff (l.getD k default)).hashes), .slice a5_5 ((Bl.add ff (l.getD k default)).set).length c5_5]) (cs' := [Vi ((Bl.add ff (l.getD k default)).size), Vi ((Bl.add ff (l.getD k default)).hashes), .slice a5_5 ((Bl.add ff (l.getD k default)).set).length c5_5]) rfl rfl rfl sz24 rfl rfl rfl rfl ?_
    refine o_nil ?_
    refine h_next (dp (lz (lz (lj (lj (lj (ln))))))) ?_
    refine h_tk (i := 11) (ls := #[T1,T1,T1,T1,T1,T1,T1,T1,T1,T1,T1,T1]) rfl (p_assign rfl) (dp (lz (lz (lj (lj (lj (ln))))))) ?_
    refine h_done (by kernel_rfl) ?_
    refine q_kont hK6 (S5_5, a5_5, c5_5, B5_9) (sr (sr (sr (sr (sr (sr (Sub.nil _))))))) (pk [1, 0, 2, 3, 4])
  rintro ⟨S5_5, a5_5, c5_5, B5_9⟩
  show SQ _ 57 w0 _ _ [(1, .slice al l.length cl), (2, Vi i), (3, .pointer (some ⟨B1, 0, none⟩)), (7, Vi (k : Int)), (8, .pointer (some ⟨B5_9, 0, none⟩)), (9, Vi (Bl.keyErr ff (l.getD k default)))] [box B5_9 [Vi ((Bl.add ff (l.getD k default)).size), Vi ((Bl.add ff (l.getD k default)).hashes), .slice a5_5 ((Bl.add ff (l.getD k default)).set).length c5_5] 24, own tInt S5_5 a5_5 c5_5 ((Bl.add ff (l.getD k default)).set), loose tInt (aff_0 = af_0 ∧ cff_0 = cf_0 ∧ ff.set = f.set) Sff_0 aff_0 cff_0 ff.set, box B1 [Vi ff.size, Vi ff.hashes, .slice aff_0 ff.set.length cff_0] 24, base w0]
  refine q_know (fun w hw => own_len (i := 1) (T := tInt) hw rfl) (fun hlr7 => ?_)
  refine q_then (c_seq (c_seq (c_region ?_)))
  refine o_mv rfl rfl ?_
  refine o_p (p_ne rfl rfl) ?_
  refine o_nil (q_then ?_)
  refine c_cond rfl (fun hc8 => ?_) (fun hc8 => ?_)
  ·simp only [bne_iff_ne, ne_eq] at hc8
   have hke := hc8
   refine c_seq (c_region ?_)
   refine o_p (p_load_agg (i := 0) (vs := [Vi ((Bl.add ff (l.getD k default)).size), Vi ((Bl.add ff (l.getD k default)).hashes), .slice a5_5 ((Bl.add ff (l.getD k default)).set).length c5_5]) rfl rfl sh24 rfl rfl) ?_
   refine o_p (p_build (cells := [Vi 0, Vi 0, .slice none 0 0]) fp24 ze24 rfl rfl) ?_
   refine o_call0 (v := .bool (decide ((Bl.add ff (l.getD k default)) = (⟨0, 0, []⟩ : DFilter)))) rfl (sameFilter_ok (Bl.add ff (l.getD k default)) a5_5 c5_5 (⟨0, 0, []⟩ : DFilter) none 0) hf22 (fun w hw => ⟨(rd_own (i := 1) rfl) w hw, rd_nil w hw⟩) rfl ?_
   refine o_as rfl rfl ?_
   refine o_nil (q_then (c_ret ?_))
   refine q_then_ret (q_block_ret (q_then_ret (q_then_ret (q_block_ret (q_then_ret ?_)))))
   have hr0 : ((decide ((Bl.add ff (l.getD k default)) = (⟨0, 0, []⟩ : DFilter))) : Bool) = true := by
    first | rfl | exact Bl.same_bad hke | (have h9 := hI.ok i.toNat (by omega); rw [h9.1, h9.2]; rfl)
   refine q_end0 (v := .bool (decide ((Bl.add ff (l.getD k default)) = (⟨0, 0, []⟩ : DFilter)))) (rt1 rfl (r_tmp rfl)) (i := 4) rfl ?_
   exact (by have hcc := congrArg (fun (y0 : Bool) => (.bool y0 : Value)) hr0; exact hcc)
  ·simp only [bne_eq_false_iff_eq] at hc8
   have hke := hc8
   refine c_skip (q_then (c_region ?_))
   refine o_p (p_load_agg (i := 0) (vs := [Vi ((Bl.add ff (l.getD k default)).size), Vi ((Bl.add ff (l.getD k default)).hashes), .slice a5_5 ((Bl.add ff (l.getD k default)).set).length c5_5]) rfl rfl sh24 rfl rfl) ?_
   refine o_storeN (i := 3) (vs := [Vi ((Bl.add ff (l.getD k default)).size), Vi ((Bl.add ff (l.getD k default)).hashes), .slice a5_5 ((Bl.add ff (l.getD k default)).set).length c5_5]) (cs' := [Vi ((Bl.add ff (l.getD k default)).size), Vi ((Bl.add ff (l.getD k default)).hashes), .slice a5_5 ((Bl.add ff (l.getD k default)).set).length c5_5]) rfl rfl rfl sz24 rfl rfl rfl rfl ?_
   refine o_nil ?_
   refine q_block_normal (q_then ?_)
   refine c_region ?_
   refine o_mv rfl rfl ?_
   refine o_p (p_addb rfl rfl (by omega)) ?_
   refine o_as rfl rfl ?_
   refine o_nil ?_
   refine q_heap (H' := [box B5_9 [Vi ((Bl.add ff (l.getD k default)).size), Vi ((Bl.add ff (l.getD k default)).hashes), .slice a5_5 ((Bl.add ff (l.getD k default)).set).length c5_5] 24, loose tInt (a5_5 = af_0 ∧ c5_5 = cf_0 ∧ ((Bl.add ff (l.getD k default)).set) = f.set) S5_5 a5_5 c5_5 ((Bl.add ff (l.getD k default)).set), loose tInt (aff_0 = af_0 ∧ cff_0 = cf_0 ∧ ff.set = f.set) Sff_0 aff_0 cff_0 ff.set, box B1 [Vi ((Bl.add ff (l.getD k default)).size), Vi ((Bl.add ff (l.getD k default)).hashes), .slice a5_5 ((Bl.add ff (l.getD k default)).set).length c5_5] 24, base w0]) (fun w hw => HeapIs.toLoose (i := 1) (T := tInt) rfl hw) ?_
   refine q_round hK3 (k + 1, (Bl.add ff (l.getD k default)), a5_5, c5_5, S5_5) ?_ ?_ ?_ ?_
   ·clear hK3
    exact hI.next (by omega) hke
   ·(try dsimp only); omega
   ·exact sr (sr (sr (sr (Sub.nil _))))
   ·exact pk [1, 3, 4]
 ·simp only [decide_eq_false_iff_not, Int.not_lt] at hc4
  refine c_exit ?_
  refine q_then_exit (q_then_exit (q_block_exit (q_then ?_)))
  refine c_seq (c_seq (c_region ?_))
  refine o_mv rfl rfl ?_
  refine o_p (p_lt rfl rfl) ?_
  refine o_mv rfl rfl ?_
  refine o_or (p := 42) 5 (decide ((l.length : Int) ≤ i)) ?_ ?_ ?_
  ·intro hb9 hk
   simp only [decide_eq_false_iff_not, Int.not_lt] at hb9
   refine o_unguard 37 rfl rfl ?_
   refine o_mv rfl rfl ?_
   refine o_unguard 37 rfl rfl ?_
   refine o_mv rfl rfl ?_
   refine o_unguard 37 rfl rfl ?_
   refine o_p (p_len_slice rfl rfl Try.underlying42) ?_
   refine o_unguard 37 rfl rfl ?_
   refine o_p (p_ge rfl rfl) ?_
   refine o_pf rfl rfl rfl ?_
   exact o_sub (sr (Sub.skip rfl (Sub.skip rfl (Sub.skip rfl (Sub.skip rfl (Sub.skip rfl (Sub.skip rfl (Sub.refl _)))))))) hk
  ·intro hb9 hk
   refine o_guard_no rfl 37 rfl rfl rfl rfl rfl ?_
   refine o_guard_no rfl 37 rfl rfl rfl rfl rfl ?_
   refine o_guard_no rfl 37 rfl rfl rfl rfl rfl ?_
   refine o_guard_no rfl 37 rfl rfl rfl rfl rfl ?_
   refine o_pt rfl rfl rfl ?_
   exact o_sub (sr (Sub.skip rfl (Sub.skip rfl (Sub.skip rfl (Sub.skip rfl (Sub.skip rfl (Sub.skip rfl (Sub.refl _)))))))) hk
  refine o_nil (q_then ?_)
  refine c_cond rfl (fun hc10 => ?_) (fun hc10 => ?_)
  ·simp only [Bool.or_eq_true, decide_eq_true_eq] at hc10
   refine c_seq (c_region ?_)
   refine o_as rfl rfl ?_
   refine o_nil (q_then (c_ret ?_))
   refine q_then_ret ?_
   refine q_end0 (v := .bool true) (rt1 rfl (r_tmp rfl)) (i := 2) rfl ?_
   exact rfl
  ·simp only [Bool.or_eq_false_iff, decide_eq_false_iff_not, Int.not_lt, Int.not_le] at hc10
   refine c_skip (q_then (c_seq ?_))
   refine c_draw hmix (by kernel_rfl) ?_
   refine w_p (p_load_agg (i := 1) (vs := [Vi ff.size, Vi ff.hashes, .slice aff_0 ff.set.length cff_0]) rfl rfl sh24 rfl rfl) ?_
   refine w_mv rfl rfl ?_
   refine w_mv rfl rfl ?_
   refine w_p (p_indexAddr (L := l) (T := tStr) (i := i) rfl rfl (rd_base (i := 2) rfl hl) Try.underlying42 sz9 (by omega) (by omega)) ?_
   refine w_p (p_loadE1 (i := i.toNat) (T := tStr) (L := l) (v := .string (l.getD i.toNat default)) rfl (rd_base (i := 2) rfl hl) (by first | assumption | omega) sh9 (congrArg tStr.enc (getd_at (by first | assumption | omega) default))) ?_
   refine w_call0 (v := .tuple #[.bool (Bl.may ff (l.getD i.toNat default)), Vi (Bl.keyErr ff (l.getD i.toNat default))]) rfl (bmay_ok ff aff_0 cff_0 (l.getD i.toNat default)) hf12 (fun w hw => (rd_loose (i := 0) rfl (fun hφ => by obtain ⟨h1, h2, h3⟩ := hφ; intro w hw; have g1 : aff_0 = af_0 := h1; have g2 : cff_0 = cf_0 := h2; have g3 : ff.set = f.set := h3; rw [g1, g2, g3]; exact (rd_base (i := 2) rfl hf_0) w hw)) w hw) rfl ?_
   refine w_mv rfl rfl ?_
   refine w_p (p_extract rfl rfl) ?_
   refine w_p (p_extract rfl rfl) ?_
   refine w_p (p_assign rfl) ?_
   refine w_p (p_assign rfl) ?_
   refine w_nil (q_then (c_seq (c_region ?_)))
   refine o_mv rfl rfl ?_
   refine o_p (p_eq rfl rfl) ?_
   refine o_mv rfl rfl ?_
   refine o_and (p := 56) 2 (Bl.may ff (l.getD i.toNat default)) ?_ ?_ ?_
   ·intro hb11 hk
    simp only [beq_iff_eq] at hb11
    refine o_unguard 54 rfl rfl ?_
    refine o_mv rfl rfl ?_
    refine o_pt rfl rfl rfl ?_
    exact o_sub (sr (Sub.skip rfl (Sub.skip rfl (Sub.skip rfl (Sub.refl _))))) hk
   ·intro hb11 hk
    refine o_guard_no rfl 54 rfl rfl rfl rfl rfl ?_
    refine o_pf rfl rfl rfl ?_
    exact o_sub (sr (Sub.skip rfl (Sub.skip rfl (Sub.skip rfl (Sub.refl _))))) hk
   refine o_as rfl rfl ?_
   refine o_nil (q_then (c_ret ?_))
   have hr0 : ((((Bl.keyErr ff (l.getD i.toNat default)) == 0) && (Bl.may ff (l.getD i.toNat default))) : Bool) = true := by
    first | rfl | exact Bl.same_bad hke | (have h9 := hI.ok i.toNat (by omega); rw [h9.1, h9.2]; rfl)
   refine q_end0 (v := .bool (((Bl.keyErr ff (l.getD i.toNat default)) == 0) && (Bl.may ff (l.getD i.toNat default)))) (rt1 rfl (r_tmp rfl)) (i := 2) rfl ?_
   exact (by have hcc := congrArg (fun (y0 : Bool) => (.bool y0 : Value)) hr0; exact hcc)
end Go.Proofs.Ytfncgfcehkalnaa
