/- The walks, printed by a program from the translation and a specification. -/
import Derived.Test.YtfncgfcehkalnaaBlF
import Derived.Test.YtfncgfcehkalnaaBlLaw
import Derived.Test.YtfncgfcehkalnaaBlW2
namespace Go.Proofs.Ytfncgfcehkalnaa
open Go.Sx Go.RowKit
set_option maxHeartbeats 8000000 in
set_option maxRecDepth 100000 in
theorem bunion_ok (a : DFilter) (aa_0 : Option Addr) (ca_0 : Nat) (b : DFilter) (ab_0 : Option Addr) (cb_0 : Nat) : FnM Try.prog 13 [.agg #[Vi a.size, Vi a.hashes, .slice aa_0 a.set.length ca_0], .agg #[Vi b.size, Vi b.hashes, .slice ab_0 b.set.length cb_0]] (fun w => Rd tInt w aa_0 ca_0 a.set ∧ Rd tInt w ab_0 cb_0 b.set) (Option Addr × Nat) (fun p => .tuple #[.agg #[Vi ((Bl.uni a b).size), Vi ((Bl.uni a b).hashes), .slice p.1 ((Bl.uni a b).set).length p.2], Vi (Bl.uniErr a b)]) (fun p S w => SlO tInt S w p.1 p.2 ((Bl.uni a b).set)) := by
 refine fnM (nt := 41) (F0 := [(0, .agg #[Vi a.size, Vi a.hashes, .slice aa_0 a.set.length ca_0]), (1, .agg #[Vi b.size, Vi b.hashes, .slice ab_0 b.set.length cb_0])]) Try.func13 rfl Try.ntmps13 rfl rfl (fun w0 hpre => ?_)
 obtain ⟨ha_0, hb_0⟩ := hpre
 have hlha_0 := ha_0.2.1
 have hlhb_0 := hb_0.2.1
 refine c_seq (c_region ?_)
 refine o_box (v := .agg #[Vi a.size, Vi a.hashes, .slice aa_0 a.set.length ca_0]) rfl rfl (fun B1 => ?_)
 refine o_box (v := .agg #[Vi b.size, Vi b.hashes, .slice ab_0 b.set.length cb_0]) rfl rfl (fun B2 => ?_)
 refine o_alloc ze24 rfl (fun B3 => ?_)
 refine o_as rfl rfl ?_
 refine o_nil (q_then (c_seq (c_seq (c_region ?_))))
 refine o_p (p_load_agg (i := 2) (vs := [Vi a.size, Vi a.hashes, .slice aa_0 a.set.length ca_0]) rfl rfl sh24 rfl rfl) ?_
 refine o_p (p_load_agg (i := 1) (vs := [Vi b.size, Vi b.hashes, .slice ab_0 b.set.length cb_0]) rfl rfl sh24 rfl rfl) ?_
 refine o_buildSlice (m := 2) (T := tFHdr) (L := [(⟨a.size, a.hashes, aa_0, ca_0, a.set⟩ : FHdr), (⟨b.size, b.hashes, ab_0, cb_0, b.set⟩ : FHdr)]) (vs := [.agg #[Vi a.size, Vi a.hashes, .slice aa_0 a.set.length ca_0], .agg #[Vi b.size, Vi b.hashes, .slice ab_0 b.set.length cb_0]]) rfl rfl rfl rfl Try.underlying60 sz24 (by decide) ze24 rfl (by decide) rfl (fun S4 a5 => ?_)
 refine o_p (p_len_slice rfl rfl Try.underlying60) ?_
 refine o_mv rfl rfl ?_
 refine o_nil (q_then (c_block ?_))
 refine c_loop (St := Nat)
  (fun k => [(2, .pointer (some ⟨B1, 0, none⟩)), (3, .pointer (some ⟨B2, 0, none⟩)), (4, .pointer (some ⟨B3, 0, none⟩)), (11, .slice a5 ([(⟨a.size, a.hashes, aa_0, ca_0, a.set⟩ : FHdr), (⟨b.size, b.hashes, ab_0, cb_0, b.set⟩ : FHdr)]).length ([(⟨a.size, a.hashes, aa_0, ca_0, a.set⟩ : FHdr), (⟨b.size, b.hashes, ab_0, cb_0, b.set⟩ : FHdr)].length)), (12, Vi (([(⟨a.size, a.hashes, aa_0, ca_0, a.set⟩ : FHdr), (⟨b.size, b.hashes, ab_0, cb_0, b.set⟩ : FHdr)]).length : Int)), (13, Vi (k : Int))])
  (fun k => [own tFHdr S4 a5 ([(⟨a.size, a.hashes, aa_0, ca_0, a.set⟩ : FHdr), (⟨b.size, b.hashes, ab_0, cb_0, b.set⟩ : FHdr)].length) ([(⟨a.size, a.hashes, aa_0, ca_0, a.set⟩ : FHdr), (⟨b.size, b.hashes, ab_0, cb_0, b.set⟩ : FHdr)]), box B3 [Vi 0, Vi 0, .slice none 0 0] 24, box B2 [Vi b.size, Vi b.hashes, .slice ab_0 b.set.length cb_0] 24, box B1 [Vi a.size, Vi a.hashes, .slice aa_0 a.set.length ca_0] 24, base w0])
  (fun k => k ≤ 2 ∧ (1 ≤ k → Bl.check a = 0) ∧ (2 ≤ k → Bl.check b = 0))
  (fun k => 2 - k)
  0 ?_ (sr (sr (sr (sr (sr (sr (Sub.nil _))))))) (fun _ hw => hw) ?_
 ·exact ⟨by omega, fun h => by omega, fun h => by omega⟩
 rintro k hI K hK7
 obtain ⟨hk1, hk2, hk3⟩ := id hI
 show SC _ _ Try.prog 41 w0 _ _ [(2, .pointer (some ⟨B1, 0, none⟩)), (3, .pointer (some ⟨B2, 0, none⟩)), (4, .pointer (some ⟨B3, 0, none⟩)), (11, .slice a5 ([(⟨a.size, a.hashes, aa_0, ca_0, a.set⟩ : FHdr), (⟨b.size, b.hashes, ab_0, cb_0, b.set⟩ : FHdr)]).length ([(⟨a.size, a.hashes, aa_0, ca_0, a.set⟩ : FHdr), (⟨b.size, b.hashes, ab_0, cb_0, b.set⟩ : FHdr)].length)), (12, Vi (([(⟨a.size, a.hashes, aa_0, ca_0, a.set⟩ : FHdr), (⟨b.size, b.hashes, ab_0, cb_0, b.set⟩ : FHdr)]).length : Int)), (13, Vi (k : Int))] [own tFHdr S4 a5 ([(⟨a.size, a.hashes, aa_0, ca_0, a.set⟩ : FHdr), (⟨b.size, b.hashes, ab_0, cb_0, b.set⟩ : FHdr)].length) ([(⟨a.size, a.hashes, aa_0, ca_0, a.set⟩ : FHdr), (⟨b.size, b.hashes, ab_0, cb_0, b.set⟩ : FHdr)]), box B3 [Vi 0, Vi 0, .slice none 0 0] 24, box B2 [Vi b.size, Vi b.hashes, .slice ab_0 b.set.length cb_0] 24, box B1 [Vi a.size, Vi a.hashes, .slice aa_0 a.set.length ca_0] 24, base w0]
 refine c_seq (c_region ?_)
 refine o_p (p_lt rfl rfl) ?_
 refine o_nil (q_then (c_seq ?_))
 refine c_cond rfl (fun hc8 => ?_) (fun hc8 => ?_)
 ·simp only [decide_eq_true_eq] at hc8
  have hcq := hc8
  simp only [List.length_cons, List.length_nil] at hcq
  refine c_skip (q_then (c_seq (c_block (c_seq ?_))))
  rcases (show (k : Int) = 0 ∨ (k : Int) = 1 by omega) with e_ | e_
  ·rw [e_]
   refine c_region ?_
   refine o_p (p_indexAddr (L := [(⟨a.size, a.hashes, aa_0, ca_0, a.set⟩ : FHdr), (⟨b.size, b.hashes, ab_0, cb_0, b.set⟩ : FHdr)]) (T := tFHdr) (i := 0) rfl rfl (rd_own (i := 0) rfl) Try.underlying60 sz24 (by omega) (by omega)) ?_
   refine o_p (p_loadEn (i := 0) (T := tFHdr) (L := [(⟨a.size, a.hashes, aa_0, ca_0, a.set⟩ : FHdr), (⟨b.size, b.hashes, ab_0, cb_0, b.set⟩ : FHdr)]) (vs := [Vi a.size, Vi a.hashes, .slice aa_0 a.set.length ca_0]) rfl (rd_own (i := 0) rfl) (by first | assumption | omega) sh24 rfl) ?_
   refine o_alloc ze24 rfl (fun B9 => ?_)
   refine o_storeN (i := 0) (vs := [Vi a.size, Vi a.hashes, .slice aa_0 a.set.length ca_0]) (cs' := [Vi a.size, Vi a.hashes, .slice aa_0 a.set.length ca_0]) rfl rfl rfl sz24 rfl rfl rfl rfl ?_
   refine o_nil (q_then (c_seq (c_region ?_)))
   refine o_p (p_load_agg (i := 0) (vs := [Vi a.size, Vi a.hashes, .slice aa_0 a.set.length ca_0]) rfl rfl sh24 rfl rfl) ?_
   refine o_call0 (v := Vi (Bl.check a)) rfl (bcheck_ok a aa_0 ca_0) hf21 (fun w hw => (rd_base (i := 5) rfl ha_0) w hw) rfl ?_
   refine o_as rfl rfl ?_
   refine o_nil (q_then (c_seq (c_region ?_)))
   refine o_mv rfl rfl ?_
   refine o_p (p_ne rfl rfl) ?_
   refine o_nil (q_then ?_)
   refine c_cond rfl (fun hc10 => ?_) (fun hc10 => ?_)
   ·simp only [bne_iff_ne, ne_eq] at hc10
    refine c_seq (c_region ?_)
    refine o_p (p_build (cells := [Vi 0, Vi 0, .slice none 0 0]) fp24 ze24 rfl rfl) ?_
    refine o_mv rfl rfl ?_
    refine o_storeN (i := 2) (vs := [Vi 0, Vi 0, .slice none 0 0]) (cs' := [Vi 0, Vi 0, .slice none 0 0]) rfl rfl rfl sz24 rfl rfl rfl rfl ?_
    refine o_as rfl rfl ?_
    refine o_nil (q_then (c_ret ?_))
    refine q_block_ret (q_then_ret (q_then_ret (q_block_ret (q_then_ret ?_))))
    obtain ⟨hv1, hv2⟩ : _ ∧ _ := by first | exact Bl.ue1 (a := a) (b := b) (by assumption) | exact Bl.ue2 (hI.2.1 (by omega)) (by assumption) | exact Bl.ue3 (a := a) (b := b) (hI.2.1 (by omega)) (hI.2.2 (by omega)) hne | exact Bl.ue4 (a := a) (b := b) (hI.2.1 (by omega)) (hI.2.2 (by omega)) hne
    have hr0 : (0 : Int) = (Bl.uni a b).size := by
     first | (rw [hv1]; done) | (rw [hv1]; rfl) | exact hv2.symm
    have hr1 : (0 : Int) = (Bl.uni a b).hashes := by
     first | (rw [hv1]; done) | (rw [hv1]; rfl) | exact hv2.symm
    have hr2 : ([] : List Int) = (Bl.uni a b).set := by
     first | (rw [hv1]; done) | (rw [hv1]; rfl) | exact hv2.symm
    have hr3 : ((Bl.check a) : Int) = (Bl.uniErr a b) := by
     first | (rw [hv1]; done) | (rw [hv1]; rfl) | exact hv2.symm
    refine q_endM (p := (none, 0)) (fun _ => False) (rt2 rfl (r_cell (i := 2) rfl rfl sh24 rfl) (r_tmp rfl)) (i := 5) rfl ?_ ?_ ?_
    ·exact (by have hcc := congr (congr (congr (congrArg (fun (y0 : Int) (y1 : Int) (y2 : List Int) (y3 : Int) => (.tuple #[.agg #[.int .i64 y0, .int .i64 y1, .slice none y2.length 0], .int .i64 y3] : Value)) hr0) hr1) hr2) hr3; exact hcc)
    ·intro w hw b hb; exact hb.elim
    ·intro w hw; exact Eq.mp (congrArg (fun y => SlO tInt _ w none 0 y) hr2) (SlO.nil tInt w)
   ·simp only [bne_eq_false_iff_eq] at hc10
    have hca := hc10
    refine c_skip ?_
    refine q_block_normal (q_then ?_)
    refine c_region ?_
    refine o_p (p_addb rfl rfl (by omega)) ?_
    refine o_mv rfl rfl ?_
    refine o_nil ?_
    refine q_round hK7 (((0 + 1) : Int).toNat) ?_ ?_ ?_ ?_
    ·clear hK7
     first | exact ⟨by omega, fun _ => hca, fun h => by omega⟩ | exact ⟨by omega, fun _ => hk2 (by omega), fun _ => hcb⟩
    ·(try dsimp only); omega
    ·exact sr (sr (sr (sr (sr (sr (Sub.nil _))))))
    ·exact pk [1, 2, 3, 4, 5]
  ·rw [e_]
   refine c_region ?_
   refine o_p (p_indexAddr (L := [(⟨a.size, a.hashes, aa_0, ca_0, a.set⟩ : FHdr), (⟨b.size, b.hashes, ab_0, cb_0, b.set⟩ : FHdr)]) (T := tFHdr) (i := 1) rfl rfl (rd_own (i := 0) rfl) Try.underlying60 sz24 (by omega) (by omega)) ?_
   refine o_p (p_loadEn (i := 1) (T := tFHdr) (L := [(⟨a.size, a.hashes, aa_0, ca_0, a.set⟩ : FHdr), (⟨b.size, b.hashes, ab_0, cb_0, b.set⟩ : FHdr)]) (vs := [Vi b.size, Vi b.hashes, .slice ab_0 b.set.length cb_0]) rfl (rd_own (i := 0) rfl) (by first | assumption | omega) sh24 rfl) ?_
   refine o_alloc ze24 rfl (fun B11 => ?_)
   refine o_storeN (i := 0) (vs := [Vi b.size, Vi b.hashes, .slice ab_0 b.set.length cb_0]) (cs' := [Vi b.size, Vi b.hashes, .slice ab_0 b.set.length cb_0]) rfl rfl rfl sz24 rfl rfl rfl rfl ?_
   refine o_nil (q_then (c_seq (c_region ?_)))
   refine o_p (p_load_agg (i := 0) (vs := [Vi b.size, Vi b.hashes, .slice ab_0 b.set.length cb_0]) rfl rfl sh24 rfl rfl) ?_
   refine o_call0 (v := Vi (Bl.check b)) rfl (bcheck_ok b ab_0 cb_0) hf21 (fun w hw => (rd_base (i := 5) rfl hb_0) w hw) rfl ?_
   refine o_as rfl rfl ?_
   refine o_nil (q_then (c_seq (c_region ?_)))
   refine o_mv rfl rfl ?_
   refine o_p (p_ne rfl rfl) ?_
   refine o_nil (q_then ?_)
   refine c_cond rfl (fun hc12 => ?_) (fun hc12 => ?_)
   ·simp only [bne_iff_ne, ne_eq] at hc12
    refine c_seq (c_region ?_)
    refine o_p (p_build (cells := [Vi 0, Vi 0, .slice none 0 0]) fp24 ze24 rfl rfl) ?_
    refine o_mv rfl rfl ?_
    refine o_storeN (i := 2) (vs := [Vi 0, Vi 0, .slice none 0 0]) (cs' := [Vi 0, Vi 0, .slice none 0 0]) rfl rfl rfl sz24 rfl rfl rfl rfl ?_
    refine o_as rfl rfl ?_
    refine o_nil (q_then (c_ret ?_))
    refine q_block_ret (q_then_ret (q_then_ret (q_block_ret (q_then_ret ?_))))
    obtain ⟨hv1, hv2⟩ : _ ∧ _ := by first | exact Bl.ue1 (a := a) (b := b) (by assumption) | exact Bl.ue2 (hI.2.1 (by omega)) (by assumption) | exact Bl.ue3 (a := a) (b := b) (hI.2.1 (by omega)) (hI.2.2 (by omega)) hne | exact Bl.ue4 (a := a) (b := b) (hI.2.1 (by omega)) (hI.2.2 (by omega)) hne
    have hr0 : (0 : Int) = (Bl.uni a b).size := by
     first | (rw [hv1]; done) | (rw [hv1]; rfl) | exact hv2.symm
    have hr1 : (0 : Int) = (Bl.uni a b).hashes := by
     first | (rw [hv1]; done) | (rw [hv1]; rfl) | exact hv2.symm
    have hr2 : ([] : List Int) = (Bl.uni a b).set := by
     first | (rw [hv1]; done) | (rw [hv1]; rfl) | exact hv2.symm
    have hr3 : ((Bl.check b) : Int) = (Bl.uniErr a b) := by
     first | (rw [hv1]; done) | (rw [hv1]; rfl) | exact hv2.symm
    refine q_endM (p := (none, 0)) (fun _ => False) (rt2 rfl (r_cell (i := 2) rfl rfl sh24 rfl) (r_tmp rfl)) (i := 5) rfl ?_ ?_ ?_
    ·exact (by have hcc := congr (congr (congr (congrArg (fun (y0 : Int) (y1 : Int) (y2 : List Int) (y3 : Int) => (.tuple #[.agg #[.int .i64 y0, .int .i64 y1, .slice none y2.length 0], .int .i64 y3] : Value)) hr0) hr1) hr2) hr3; exact hcc)
    ·intro w hw b hb; exact hb.elim
    ·intro w hw; exact Eq.mp (congrArg (fun y => SlO tInt _ w none 0 y) hr2) (SlO.nil tInt w)
   ·simp only [bne_eq_false_iff_eq] at hc12
    have hcb := hc12
    refine c_skip ?_
    refine q_block_normal (q_then ?_)
    refine c_region ?_
    refine o_p (p_addb rfl rfl (by omega)) ?_
    refine o_mv rfl rfl ?_
    refine o_nil ?_
    refine q_round hK7 (((1 + 1) : Int).toNat) ?_ ?_ ?_ ?_
    ·clear hK7
     first | exact ⟨by omega, fun _ => hca, fun h => by omega⟩ | exact ⟨by omega, fun _ => hk2 (by omega), fun _ => hcb⟩
    ·(try dsimp only); omega
    ·exact sr (sr (sr (sr (sr (sr (Sub.nil _))))))
    ·exact pk [1, 2, 3, 4, 5]
 ·simp only [decide_eq_false_iff_not, Int.not_lt] at hc8
  have hcq := hc8
  simp only [List.length_cons, List.length_nil] at hcq
  refine c_exit ?_
  refine q_then_exit (q_then_exit (q_block_exit (q_then ?_)))
  refine c_seq (c_seq (c_region ?_))
  refine o_p (p_fieldAddr (j' := 0) rfl fo24_0 rfl) ?_
  refine o_p (p_load (i := 3) (v := Vi a.size) rfl rfl sh3 rfl) ?_
  refine o_p (p_fieldAddr (j' := 0) rfl fo24_0 rfl) ?_
  refine o_p (p_load (i := 2) (v := Vi b.size) rfl rfl sh3 rfl) ?_
  refine o_p (p_ne rfl rfl) ?_
  refine o_mv rfl rfl ?_
  refine o_or (p := 35) 6 (a.hashes != b.hashes) ?_ ?_ ?_
  ·intro hb13 hk
   simp only [bne_eq_false_iff_eq] at hb13
   refine o_unguard 29 rfl rfl ?_
   refine o_p (p_fieldAddr (j' := 1) rfl fo24_1 rfl) ?_
   refine o_unguard 29 rfl rfl ?_
   refine o_p (p_load (i := 3) (v := Vi a.hashes) rfl rfl sh3 rfl) ?_
   refine o_unguard 29 rfl rfl ?_
   refine o_p (p_fieldAddr (j' := 1) rfl fo24_1 rfl) ?_
   refine o_unguard 29 rfl rfl ?_
   refine o_p (p_load (i := 2) (v := Vi b.hashes) rfl rfl sh3 rfl) ?_
   refine o_unguard 29 rfl rfl ?_
   refine o_p (p_ne rfl rfl) ?_
   refine o_pf rfl rfl rfl ?_
   exact o_sub (sr (Sub.skip rfl (Sub.skip rfl (Sub.skip rfl (Sub.skip rfl (Sub.skip rfl (Sub.skip rfl (Sub.skip rfl (Sub.refl _))))))))) hk
  ·intro hb13 hk
   refine o_guard_no rfl 29 rfl rfl rfl rfl rfl ?_
   refine o_guard_no rfl 29 rfl rfl rfl rfl rfl ?_
   refine o_guard_no rfl 29 rfl rfl rfl rfl rfl ?_
   refine o_guard_no rfl 29 rfl rfl rfl rfl rfl ?_
   refine o_guard_no rfl 29 rfl rfl rfl rfl rfl ?_
   refine o_pt rfl rfl rfl ?_
   exact o_sub (sr (Sub.skip rfl (Sub.skip rfl (Sub.skip rfl (Sub.skip rfl (Sub.skip rfl (Sub.skip rfl (Sub.skip rfl (Sub.refl _))))))))) hk
  refine o_nil (q_then ?_)
  refine c_cond rfl (fun hc14 => ?_) (fun hc14 => ?_)
  ·simp only [Bool.or_eq_true, bne_iff_ne, ne_eq] at hc14
   have hne := hc14
   refine c_seq (c_region ?_)
   refine o_p (p_build (cells := [Vi 0, Vi 0, .slice none 0 0]) fp24 ze24 rfl rfl) ?_
   refine o_storeN (i := 1) (vs := [Vi 0, Vi 0, .slice none 0 0]) (cs' := [Vi 0, Vi 0, .slice none 0 0]) rfl rfl rfl sz24 rfl rfl rfl rfl ?_
   refine o_as rfl rfl ?_
   refine o_nil (q_then (c_ret ?_))
   refine q_then_ret ?_
   obtain ⟨hv1, hv2⟩ : _ ∧ _ := by first | exact Bl.ue1 (a := a) (b := b) (by assumption) | exact Bl.ue2 (hI.2.1 (by omega)) (by assumption) | exact Bl.ue3 (a := a) (b := b) (hI.2.1 (by omega)) (hI.2.2 (by omega)) hne | exact Bl.ue4 (a := a) (b := b) (hI.2.1 (by omega)) (hI.2.2 (by omega)) hne
   have hr0 : (0 : Int) = (Bl.uni a b).size := by
    first | (rw [hv1]; done) | (rw [hv1]; rfl) | exact hv2.symm
   have hr1 : (0 : Int) = (Bl.uni a b).hashes := by
    first | (rw [hv1]; done) | (rw [hv1]; rfl) | exact hv2.symm
   have hr2 : ([] : List Int) = (Bl.uni a b).set := by
    first | (rw [hv1]; done) | (rw [hv1]; rfl) | exact hv2.symm
   have hr3 : (7 : Int) = (Bl.uniErr a b) := by
    first | (rw [hv1]; done) | (rw [hv1]; rfl) | exact hv2.symm
   refine q_endM (p := (none, 0)) (fun _ => False) (rt2 rfl (r_cell (i := 1) rfl rfl sh24 rfl) (r_tmp rfl)) (i := 4) rfl ?_ ?_ ?_
   ·exact (by have hcc := congr (congr (congr (congrArg (fun (y0 : Int) (y1 : Int) (y2 : List Int) (y3 : Int) => (.tuple #[.agg #[.int .i64 y0, .int .i64 y1, .slice none y2.length 0], .int .i64 y3] : Value)) hr0) hr1) hr2) hr3; exact hcc)
   ·intro w hw b hb; exact hb.elim
   ·intro w hw; exact Eq.mp (congrArg (fun y => SlO tInt _ w none 0 y) hr2) (SlO.nil tInt w)
  ·simp only [Bool.or_eq_false_iff, bne_eq_false_iff_eq] at hc14
   have hne := hc14
   have hoa := Bl.check_ok.1 (hI.2.1 (by omega))
   have hob := Bl.check_ok.1 (hI.2.2 (by omega))
   have h1 := hoa.len
   have h2 := hob.len
   have h3 := hoa.size
   have h4 := hob.size
   refine c_skip (q_then (c_seq (c_region ?_)))
   refine o_p (p_load_agg (i := 3) (vs := [Vi a.size, Vi a.hashes, .slice aa_0 a.set.length ca_0]) rfl rfl sh24 rfl rfl) ?_
   refine o_p (p_fieldAddr (j' := 2) rfl fo24_2 rfl) ?_
   refine o_p (p_load (i := 2) (v := .slice ab_0 b.set.length cb_0) rfl rfl sh22 rfl) ?_
   refine o_callM rfl (bwith_ok a aa_0 ca_0 b.set ab_0 cb_0 (by omega)) hf32 (fun w hw => ⟨(rd_base (i := 4) rfl ha_0) w hw, (rd_base (i := 4) rfl hb_0) w hw⟩) rfl (fun _ _ _ _ ha hA => SlO.agree ha hA) ?_
   rintro ⟨a17, c18⟩ S15
   refine o_know (fun w hw => own_len (i := 0) (T := tInt) hw rfl) (fun hlr19 => ?_)
   refine o_storeN (i := 2) (vs := [Vi a.size, Vi a.hashes, .slice a17 (Bl.once (a.set ++ b.set)).length c18]) (cs' := [Vi a.size, Vi a.hashes, .slice a17 (Bl.once (a.set ++ b.set)).length c18]) rfl rfl rfl sz24 rfl rfl rfl rfl ?_
   refine o_as rfl rfl ?_
   refine o_nil (q_then (c_ret ?_))
   obtain ⟨hv1, hv2⟩ : _ ∧ _ := by first | exact Bl.ue1 (a := a) (b := b) (by assumption) | exact Bl.ue2 (hI.2.1 (by omega)) (by assumption) | exact Bl.ue3 (a := a) (b := b) (hI.2.1 (by omega)) (hI.2.2 (by omega)) hne | exact Bl.ue4 (a := a) (b := b) (hI.2.1 (by omega)) (hI.2.2 (by omega)) hne
   have hr0 : (a.size : Int) = (Bl.uni a b).size := by
    first | (rw [hv1]; done) | (rw [hv1]; rfl) | exact hv2.symm
   have hr1 : (a.hashes : Int) = (Bl.uni a b).hashes := by
    first | (rw [hv1]; done) | (rw [hv1]; rfl) | exact hv2.symm
   have hr2 : (Bl.once (a.set ++ b.set) : List Int) = (Bl.uni a b).set := by
    first | (rw [hv1]; done) | (rw [hv1]; rfl) | exact hv2.symm
   have hr3 : (0 : Int) = (Bl.uniErr a b) := by
    first | (rw [hv1]; done) | (rw [hv1]; rfl) | exact hv2.symm
   refine q_endM (p := (a17, c18)) S15 (rt2 rfl (r_cell (i := 2) rfl rfl sh24 rfl) (r_tmp rfl)) (i := 5) rfl ?_ ?_ ?_
   ·exact (by have hcc := congr (congr (congr (congrArg (fun (y0 : Int) (y1 : Int) (y2 : List Int) (y3 : Int) => (.tuple #[.agg #[.int .i64 y0, .int .i64 y1, .slice a17 y2.length c18], .int .i64 y3] : Value)) hr0) hr1) hr2) hr3; exact hcc)
   ·exact fun w hw => hw.above (i := 5) (j := 0) (by decide) rfl rfl
   ·intro w hw; exact Eq.mp (congrArg (fun y => SlO tInt _ w a17 c18 y) hr2) ((hw.at (i := 0) rfl).here)
end Go.Proofs.Ytfncgfcehkalnaa
