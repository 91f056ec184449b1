/- The walks, printed by a program from the translation and a specification. -/
import Derived.Test.YtfncgfcehkalnaaBlF
import Derived.Test.YtfncgfcehkalnaaBlLaw
import Derived.Test.YtfncgfcehkalnaaBlW2
namespace Go.Proofs.Ytfncgfcehkalnaa
open Go.Sx Go.RowKit
set_option maxHeartbeats 8000000 in
set_option maxRecDepth 100000 in
theorem bfold_ok (f : DFilter) (af_0 : Option Addr) (cf_0 : Nat) : FnM Try.prog 14 [.agg #[Vi f.size, Vi f.hashes, .slice af_0 f.set.length cf_0]] (fun w => Rd tInt w af_0 cf_0 f.set) (Option Addr × Nat) (fun p => .tuple #[.agg #[Vi ((Bl.fold f).size), Vi ((Bl.fold f).hashes), .slice p.1 ((Bl.fold f).set).length p.2], Vi (Bl.foldErr f)]) (fun p S w => SlO tInt S w p.1 p.2 ((Bl.fold f).set)) := by
 refine fnM (nt := 45) (F0 := [(0, .agg #[Vi f.size, Vi f.hashes, .slice af_0 f.set.length cf_0])]) Try.func14 rfl Try.ntmps14 rfl rfl (fun w0 hpre => ?_)
 have hf_0 := hpre
 have hlhf_0 := hf_0.2.1
 refine c_seq (c_region ?_)
 refine o_box (v := .agg #[Vi f.size, Vi f.hashes, .slice af_0 f.set.length cf_0]) rfl rfl (fun B1 => ?_)
 refine o_alloc ze24 rfl (fun B2 => ?_)
 refine o_as rfl rfl ?_
 refine o_nil (q_then (c_seq (c_seq (c_region ?_))))
 refine o_p (p_load_agg (i := 1) (vs := [Vi f.size, Vi f.hashes, .slice af_0 f.set.length cf_0]) rfl rfl sh24 rfl rfl) ?_
 refine o_call0 (v := Vi (Bl.check f)) rfl (bcheck_ok f af_0 cf_0) hf21 (fun w hw => (rd_base (i := 2) rfl hf_0) w hw) rfl ?_
 refine o_as rfl rfl ?_
 refine o_nil (q_then (c_seq (c_region ?_)))
 refine o_mv rfl rfl ?_
 refine o_p (p_ne rfl rfl) ?_
 refine o_nil (q_then ?_)
 refine c_cond rfl (fun hc3 => ?_) (fun hc3 => ?_)
 ·simp only [bne_iff_ne, ne_eq] at hc3
  refine c_seq (c_region ?_)
  refine o_p (p_build (cells := [Vi 0, Vi 0, .slice none 0 0]) fp24 ze24 rfl rfl) ?_
  refine o_mv rfl rfl ?_
  refine o_storeN (i := 0) (vs := [Vi 0, Vi 0, .slice none 0 0]) (cs' := [Vi 0, Vi 0, .slice none 0 0]) rfl rfl rfl sz24 rfl rfl rfl rfl ?_
  refine o_as rfl rfl ?_
  refine o_nil (q_then (c_ret ?_))
  refine q_then_ret ?_
  obtain ⟨hv1, hv2⟩ : _ ∧ _ := by first | exact Bl.fe1 (by assumption) | exact Bl.fe2 hck hod | exact Bl.fe3 hck hod
  have hr0 : (0 : Int) = (Bl.fold f).size := by
   first | (rw [hv1]; done) | (rw [hv1]; rfl) | exact hv2.symm | (rw [hv1, hI.done (by omega)])
  have hr1 : (0 : Int) = (Bl.fold f).hashes := by
   first | (rw [hv1]; done) | (rw [hv1]; rfl) | exact hv2.symm | (rw [hv1, hI.done (by omega)])
  have hr2 : ([] : List Int) = (Bl.fold f).set := by
   first | (rw [hv1]; done) | (rw [hv1]; rfl) | exact hv2.symm | (rw [hv1, hI.done (by omega)])
  have hr3 : ((Bl.check f) : Int) = (Bl.foldErr f) := by
   first | (rw [hv1]; done) | (rw [hv1]; rfl) | exact hv2.symm | (rw [hv1, hI.done (by omega)])
  refine q_endM (p := (none, 0)) (fun _ => False) (rt2 rfl (r_cell (i := 0) rfl rfl sh24 rfl) (r_tmp rfl)) (i := 2) rfl ?_ ?_ ?_
  ·exact (by have hcc := congr (congr (congr (congrArg (fun (y0 : Int) (y1 : Int) (y2 : List Int) (y3 : Int) => (.tuple #[.agg #[.int .i64 y0, .int .i64 y1, .slice none y2.length 0], .int .i64 y3] : Value)) hr0) hr1) hr2) hr3; exact hcc)
  ·intro w hw b hb; exact hb.elim
  ·intro w hw; exact Eq.mp (congrArg (fun y => SlO tInt _ w none 0 y) hr2) (SlO.nil tInt w)
 ·simp only [bne_eq_false_iff_eq] at hc3
  have hck := hc3
  have hok := Bl.check_ok.1 hc3
  have hsz := hok.size
  have hha := hok.hashes
  have hln := hok.len
  refine c_skip (q_then (c_seq (c_seq (c_region ?_))))
  refine o_p (p_fieldAddr (j' := 0) rfl fo24_0 rfl) ?_
  refine o_p (p_load (i := 1) (v := Vi f.size) rfl rfl sh3 rfl) ?_
  refine o_p (p_rem (p := f.size) (q := 2) rfl rfl (by decide)) ?_
  refine o_p (p_ne rfl rfl) ?_
  refine o_nil (q_then ?_)
  refine c_cond rfl (fun hc4 => ?_) (fun hc4 => ?_)
  ·simp only [bne_iff_ne, ne_eq] at hc4
   have hod := hc4
   refine c_seq (c_region ?_)
   refine o_p (p_build (cells := [Vi 0, Vi 0, .slice none 0 0]) fp24 ze24 rfl rfl) ?_
   refine o_storeN (i := 0) (vs := [Vi 0, Vi 0, .slice none 0 0]) (cs' := [Vi 0, Vi 0, .slice none 0 0]) rfl rfl rfl sz24 rfl rfl rfl rfl ?_
   refine o_as rfl rfl ?_
   refine o_nil (q_then (c_ret ?_))
   refine q_then_ret ?_
   obtain ⟨hv1, hv2⟩ : _ ∧ _ := by first | exact Bl.fe1 (by assumption) | exact Bl.fe2 hck hod | exact Bl.fe3 hck hod
   have hr0 : (0 : Int) = (Bl.fold f).size := by
    first | (rw [hv1]; done) | (rw [hv1]; rfl) | exact hv2.symm | (rw [hv1, hI.done (by omega)])
   have hr1 : (0 : Int) = (Bl.fold f).hashes := by
    first | (rw [hv1]; done) | (rw [hv1]; rfl) | exact hv2.symm | (rw [hv1, hI.done (by omega)])
   have hr2 : ([] : List Int) = (Bl.fold f).set := by
    first | (rw [hv1]; done) | (rw [hv1]; rfl) | exact hv2.symm | (rw [hv1, hI.done (by omega)])
   have hr3 : (4 : Int) = (Bl.foldErr f) := by
    first | (rw [hv1]; done) | (rw [hv1]; rfl) | exact hv2.symm | (rw [hv1, hI.done (by omega)])
   refine q_endM (p := (none, 0)) (fun _ => False) (rt2 rfl (r_cell (i := 0) rfl rfl sh24 rfl) (r_tmp rfl)) (i := 2) rfl ?_ ?_ ?_
   ·exact (by have hcc := congr (congr (congr (congrArg (fun (y0 : Int) (y1 : Int) (y2 : List Int) (y3 : Int) => (.tuple #[.agg #[.int .i64 y0, .int .i64 y1, .slice none y2.length 0], .int .i64 y3] : Value)) hr0) hr1) hr2) hr3; exact hcc)
   ·intro w hw b hb; exact hb.elim
   ·intro w hw; exact Eq.mp (congrArg (fun y => SlO tInt _ w none 0 y) hr2) (SlO.nil tInt w)
  ·simp only [bne_eq_false_iff_eq] at hc4
   have hod := hc4
   refine c_skip (q_then (c_seq (c_region ?_)))
   refine o_p (p_fieldAddr (j' := 0) rfl fo24_0 rfl) ?_
   refine o_p (p_load (i := 1) (v := Vi f.size) rfl rfl sh3 rfl) ?_
   refine o_p (p_quob (p := f.size) (q := 2) rfl rfl (by decide) (by have h9 : f.size.tdiv 2 = f.size / 2 := Int.tdiv_eq_ediv_of_nonneg (by omega); omega)) ?_
   refine o_p (p_fieldAddr (j' := 1) rfl fo24_1 rfl) ?_
   refine o_p (p_load (i := 1) (v := Vi f.hashes) rfl rfl sh3 rfl) ?_
   refine o_p (p_build (cells := [Vi (f.size.tdiv 2), Vi f.hashes, .slice none 0 0]) fp24 ze24 rfl rfl) ?_
   refine o_alloc ze24 rfl (fun B5 => ?_)
   refine o_storeN (i := 0) (vs := [Vi (f.size.tdiv 2), Vi f.hashes, .slice none 0 0]) (cs' := [Vi (f.size.tdiv 2), Vi f.hashes, .slice none 0 0]) rfl rfl rfl sz24 rfl rfl rfl rfl ?_
   refine o_nil (q_then (c_seq (c_seq (c_region ?_))))
   refine o_p (p_fieldAddr (j' := 2) rfl fo24_2 rfl) ?_
   refine o_p (p_load (i := 2) (v := .slice af_0 f.set.length cf_0) rfl rfl sh22 rfl) ?_
   refine o_p (p_len_slice rfl rfl Try.underlying22) ?_
   refine o_mv rfl rfl ?_
   refine o_nil (q_then (c_block ?_))
   refine c_ownNil tInt ?_
   refine c_loop (St := Nat × DFilter × Option Addr × Nat × (Nat → Prop))
    (fun ⟨k, oo, aoo_0, coo_0, Soo_0⟩ => [(2, .pointer (some ⟨B2, 0, none⟩)), (5, .pointer (some ⟨B5, 0, none⟩)), (26, .slice af_0 f.set.length cf_0), (27, Vi (f.set.length : Int)), (28, Vi (k : Int))])
    (fun ⟨k, oo, aoo_0, coo_0, Soo_0⟩ => [own tInt Soo_0 aoo_0 coo_0 oo.set, box B5 [Vi oo.size, Vi oo.hashes, .slice aoo_0 oo.set.length coo_0] 24, box B2 [Vi 0, Vi 0, .slice none 0 0] 24, box B1 [Vi f.size, Vi f.hashes, .slice af_0 f.set.length cf_0] 24, base w0])
    (fun ⟨k, oo, aoo_0, coo_0, Soo_0⟩ => Bl.FoI f oo k)
    (fun ⟨k, oo, aoo_0, coo_0, Soo_0⟩ => f.set.length - k)
    (0, (⟨(f.size.tdiv 2), f.hashes, []⟩ : DFilter), none, 0, (fun _ => False)) ?_ (sr (sr (sr (sr (sr (Sub.nil _)))))) (fun _ hw => hw) ?_
   ·exact Bl.FoI.start f
   rintro ⟨k, oo, aoo_0, coo_0, Soo_0⟩ hI K hK7
   have hol := hI.len
   have hle := hI.le
   show SC _ _ Try.prog 45 w0 _ _ [(2, .pointer (some ⟨B2, 0, none⟩)), (5, .pointer (some ⟨B5, 0, none⟩)), (26, .slice af_0 f.set.length cf_0), (27, Vi (f.set.length : Int)), (28, Vi (k : Int))] [own tInt Soo_0 aoo_0 coo_0 oo.set, box B5 [Vi oo.size, Vi oo.hashes, .slice aoo_0 oo.set.length coo_0] 24, box B2 [Vi 0, Vi 0, .slice none 0 0] 24, box B1 [Vi f.size, Vi f.hashes, .slice af_0 f.set.length cf_0] 24, base w0]
   refine c_seq (c_region ?_)
   refine o_p (p_lt rfl rfl) ?_
   refine o_nil (q_then (c_seq ?_))
   refine c_cond rfl (fun hc8 => ?_) (fun hc8 => ?_)
   ·simp only [decide_eq_true_eq] at hc8
    have hat := Bl.at_bd hok (show k < f.set.length by omega)
    refine c_skip (q_then (c_seq (c_block (c_seq (c_region ?_)))))
    refine o_p (p_indexAddr (L := f.set) (T := tInt) (i := (k : Int)) rfl rfl (rd_base (i := 4) rfl hf_0) Try.underlying22 sz3 (by omega) (by omega)) ?_
    refine o_p (p_loadE1 (i := k) (T := tInt) (L := f.set) (v := Vi (f.set[k])) rfl (rd_base (i := 4) rfl hf_0) (by first | assumption | omega) sh3 rfl) ?_
    refine o_as rfl rfl ?_
    refine o_nil (q_then (c_region ?_))
    refine o_p (p_fieldAddr (j' := 2) rfl fo24_2 rfl) ?_
    refine o_p (p_load (i := 1) (v := .slice aoo_0 oo.set.length coo_0) rfl rfl sh22 rfl) ?_
    refine o_mv rfl rfl ?_
    refine o_p (p_quob (p := f.set[k]) (q := 2) rfl rfl (by decide) (by omega)) ?_
    refine o_buildSlice (m := 1) (T := tInt) (L := [((f.set[k]).tdiv 2)]) (vs := [Vi ((f.set[k]).tdiv 2)]) rfl rfl rfl rfl Try.underlying22 sz3 (by decide) ze3 rfl (by decide) rfl (fun S9 a10 => ?_)
    refine o_append (i := 1) (L := oo.set) (M := [((f.set[k]).tdiv 2)]) (T := tInt) rfl rfl rfl (rd_own (i := 0) rfl) Try.underlying22 Try.underlying22 (by intro k h; cases h) el3 (by intro z; simp [tInt, one1]) (by decide) (by first | omega | (simp only [List.length_cons, List.length_nil]; omega) | (simp only [List.length_append, List.length_cons, List.length_nil, List.length_take, List.length_drop]; omega)) rfl (fun a12 c13 S14 => ?_)
    refine o_p (p_fieldAddr (j' := 2) rfl fo24_2 rfl) ?_
    refine o_store (i := 2) (v := .slice a12 (oo.set ++ [((f.set[k]).tdiv 2)]).length c13) (cs' := [Vi oo.size, Vi oo.hashes, .slice a12 (oo.set ++ [((f.set[k]).tdiv 2)]).length c13]) rfl rfl rfl sz22 rfl rfl rfl ?_
    refine o_nil ?_
    refine q_block_normal (q_then ?_)
    refine c_region ?_
    refine o_p (p_addb rfl rfl (by omega)) ?_
    refine o_mv rfl rfl ?_
    refine o_nil ?_
    refine q_round hK7 (k + 1, (⟨oo.size, oo.hashes, (oo.set ++ [((f.set[k]).tdiv 2)])⟩ : DFilter), a12, c13, S14) ?_ ?_ ?_ ?_
    ·clear hK7
     exact hI.next (by omega)
    ·(try dsimp only); omega
    ·exact sr (sr (sr (sr (sr (Sub.nil _)))))
    ·exact pk [1, 2, 3, 4, 5]
   ·simp only [decide_eq_false_iff_not, Int.not_lt] at hc8
    refine c_exit ?_
    refine q_then_exit (q_then_exit (q_block_exit (q_then ?_)))
    refine c_seq (c_region ?_)
    refine o_p (p_fieldAddr (j' := 2) rfl fo24_2 rfl) ?_
    refine o_p (p_load (i := 1) (v := .slice aoo_0 oo.set.length coo_0) rfl rfl sh22 rfl) ?_
    refine o_callX (pre := [own tInt Soo_0 aoo_0 coo_0 oo.set]) (R := [box B5 [Vi oo.size, Vi oo.hashes, .slice aoo_0 oo.set.length coo_0] 24, box B2 [Vi 0, Vi 0, .slice none 0 0] 24, box B1 [Vi f.size, Vi f.hashes, .slice af_0 f.set.length cf_0] 24, base w0]) rfl (bonce_ok oo.set aoo_0 coo_0 Soo_0) hf36 rfl (fun _ _ => trivial) rfl ?_
    rintro ⟨a15, c16, S17⟩
    refine o_asH (H' := [own tInt S17 a15 c16 (Bl.once oo.set), box B5 [Vi oo.size, Vi oo.hashes, .slice aoo_0 oo.set.length coo_0] 24, box B2 [Vi 0, Vi 0, .slice none 0 0] 24, box B1 [Vi f.size, Vi f.hashes, .slice af_0 f.set.length cf_0] 24, base w0]) rfl ?_
    refine o_p (p_fieldAddr (j' := 2) rfl fo24_2 rfl) ?_
    refine o_store (i := 1) (v := .slice a15 (Bl.once oo.set).length c16) (cs' := [Vi oo.size, Vi oo.hashes, .slice a15 (Bl.once oo.set).length c16]) rfl rfl rfl sz22 rfl rfl rfl ?_
    refine o_nil (q_then (c_seq (c_region ?_)))
    refine o_p (p_load_agg (i := 1) (vs := [Vi oo.size, Vi oo.hashes, .slice a15 (Bl.once oo.set).length c16]) rfl rfl sh24 rfl rfl) ?_
    refine o_storeN (i := 2) (vs := [Vi oo.size, Vi oo.hashes, .slice a15 (Bl.once oo.set).length c16]) (cs' := [Vi oo.size, Vi oo.hashes, .slice a15 (Bl.once oo.set).length c16]) rfl rfl rfl sz24 rfl rfl rfl rfl ?_
    refine o_as rfl rfl ?_
    refine o_nil (q_then (c_ret ?_))
    obtain ⟨hv1, hv2⟩ : _ ∧ _ := by first | exact Bl.fe1 (by assumption) | exact Bl.fe2 hck hod | exact Bl.fe3 hck hod
    have hr0 : (oo.size : Int) = (Bl.fold f).size := by
     first | (rw [hv1]; done) | (rw [hv1]; rfl) | exact hv2.symm | (rw [hv1, hI.done (by omega)])
    have hr1 : (oo.hashes : Int) = (Bl.fold f).hashes := by
     first | (rw [hv1]; done) | (rw [hv1]; rfl) | exact hv2.symm | (rw [hv1, hI.done (by omega)])
    have hr2 : ((Bl.once oo.set) : List Int) = (Bl.fold f).set := by
     first | (rw [hv1]; done) | (rw [hv1]; rfl) | exact hv2.symm | (rw [hv1, hI.done (by omega)])
    have hr3 : (0 : Int) = (Bl.foldErr f) := by
     first | (rw [hv1]; done) | (rw [hv1]; rfl) | exact hv2.symm | (rw [hv1, hI.done (by omega)])
    refine q_endM (p := (a15, c16)) S17 (rt2 rfl (r_cell (i := 2) rfl rfl sh24 rfl) (r_tmp rfl)) (i := 4) rfl ?_ ?_ ?_
    ·exact (by have hcc := congr (congr (congr (congrArg (fun (y0 : Int) (y1 : Int) (y2 : List Int) (y3 : Int) => (.tuple #[.agg #[.int .i64 y0, .int .i64 y1, .slice a15 y2.length c16], .int .i64 y3] : Value)) hr0) hr1) hr2) hr3; exact hcc)
    ·exact fun w hw => hw.above (i := 4) (j := 0) (by decide) rfl rfl
    ·intro w hw; exact Eq.mp (congrArg (fun y => SlO tInt _ w a15 c16 y) hr2) ((hw.at (i := 0) rfl).here)
end Go.Proofs.Ytfncgfcehkalnaa
