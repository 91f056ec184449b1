/- The walks, printed by a program from the translation and a specification. -/
import Derived.Test.YtnmbkopnopaigaaSkF
import Derived.Test.YtnmbkopnopaigaaSkLaw
import Derived.Test.YtnmbkopnopaigaaSkW1
namespace Go.Proofs.Ytnmbkopnopaigaa
open Go.Sx Go.RowKit
set_option maxHeartbeats 8000000 in
set_option maxRecDepth 100000 in
theorem clone_Int_ok (l : List Int) (al : Option Addr) (cl : Nat) (hy1 : l.length ≤ 1000000) : FnM Try.prog 95 [.slice al l.length cl] (fun w => Rd tInt w al cl l) (Option Addr × Nat) (fun p => .slice p.1 l.length p.2) (fun p S w => SlO tInt S w p.1 p.2 l) := by
 refine fnM (nt := 8) (F0 := [(0, .slice al l.length cl)]) Try.func95 rfl Try.ntmps95 rfl rfl (fun w0 hpre => ?_)
 have hl := hpre
 have hlhl := hl.2.1
 refine c_seq (c_region ?_)
 refine o_as rfl rfl ?_
 refine o_nil (q_then (c_seq (c_seq (c_region ?_))))
 refine o_mv rfl rfl ?_
 refine o_p (p_eqNil rfl rfl Try.underlying37) ?_
 refine o_nil (q_then ?_)
 refine c_cond rfl (fun hc1 => ?_) (fun hc1 => ?_)
 ·skip
  refine c_seq (c_region ?_)
  refine o_as rfl rfl ?_
  refine o_nil (q_then (c_ret ?_))
  refine q_then_ret ?_
  have hr0 : ([] : List Int) = l := by
   first | exact (rd_isNone hl (by assumption)).symm | simp
  refine q_endM (p := (none, 0)) (fun _ => False) (rt1 rfl (r_tmp rfl)) (i := 0) rfl ?_ ?_ ?_
  ·exact (by have hcc := congrArg (fun (y0 : List Int) => (.slice none y0.length 0 : Value)) hr0; exact hcc)
  ·intro w hw b hb; exact hb.elim
  ·intro w hw; exact Eq.mp (congrArg (fun y => SlO tInt _ w none 0 y) hr0) (SlO.nil tInt w)
 ·skip
  refine c_skip (q_then (c_seq (c_region ?_)))
  refine o_buildSlice (m := 0) (T := tInt) (L := []) (vs := []) rfl rfl rfl rfl Try.underlying37 sz3 (by decide) ze3 rfl (by decide) rfl (fun S2 a3 => ?_)
  refine o_mv rfl rfl ?_
  refine o_append (i := 0) (L := []) (M := l) (T := tInt) rfl rfl rfl (rd_base (i := 1) rfl hl) Try.underlying37 Try.underlying37 (by intro k h; cases h) el3 (by intro z; simp [tInt, one1]) (by decide) (by simp only [List.length_nil]; omega) rfl (fun a5 c6 S7 => ?_)
  refine o_as rfl rfl ?_
  refine o_nil (q_then (c_ret ?_))
  have hr0 : (([] ++ l) : List Int) = l := by
   first | exact (rd_isNone hl (by assumption)).symm | simp
  refine q_endM (p := (a5, c6)) S7 (rt1 rfl (r_tmp rfl)) (i := 1) rfl ?_ ?_ ?_
  ·exact (by have hcc := congrArg (fun (y0 : List Int) => (.slice a5 y0.length c6 : Value)) hr0; exact hcc)
  ·exact fun w hw => hw.above (i := 1) (j := 0) (by decide) rfl rfl
  ·intro w hw; exact Eq.mp (congrArg (fun y => SlO tInt _ w a5 c6 y) hr0) ((hw.at (i := 0) rfl).here)

set_option maxHeartbeats 8000000 in
set_option maxRecDepth 100000 in
theorem smapped_ok (s : DSketch) (as_0 : Option Addr) (cs_0 : NC) (gf : FuncId) (kf : List Value) (f : Int → Int → Int → Int) (Pf : World → Prop) (stf : ∀ w w', Below w.heap.size w w' → Pf w → Pf w') (okf : ∀ (x : Int) (y : Int) (z : Int), (0 ≤ x ∧ x < (s.counts.length : Int) ∧ 0 ≤ y ∧ y < s.wide ∧ 0 ≤ z ∧ z ≤ 1099511627776) → Fn0 Try.prog gf (Vi x :: Vi y :: Vi z :: kf) Pf (Vi (f x y z))) (hpf : HasFn Try.prog gf) (hy1 : Sk.Form s) : FnM Try.prog 52 [.agg #[Vi s.wide, .slice as_0 s.counts.length cs_0.n], .func (.func gf) #[] kf.toArray] (fun w => RdN tInt w as_0 cs_0 s.counts ∧ Pf w) (Option Addr × NC) (fun p => .tuple #[.agg #[Vi ((Sk.mapS f s).wide), .slice p.1 ((Sk.mapS f s).counts).length p.2.n], .bool (Sk.mapOk f s)]) (fun p S w => SlON tInt S w p.1 p.2 ((Sk.mapS f s).counts)) := by
 refine fnM (nt := 53) (F0 := [(0, .agg #[Vi s.wide, .slice as_0 s.counts.length cs_0.n]), (1, .func (.func gf) #[] kf.toArray)]) Try.func52 rfl Try.ntmps52 rfl rfl (fun w0 hpre => ?_)
 obtain ⟨hs_0, hf⟩ := hpre
 have hlhs_0 := hs_0.2.1
 have hw1 := hy1.w1
 have hw2 := hy1.w2
 have hfew := hy1.few
 refine c_seq (c_region ?_)
 refine o_box (v := .agg #[Vi s.wide, .slice as_0 s.counts.length cs_0.n]) rfl rfl (fun B1 => ?_)
 refine o_alloc ze24 rfl (fun B2 => ?_)
 refine o_as rfl rfl ?_
 refine o_nil (q_then (c_seq (c_region ?_)))
 refine o_p (p_fieldAddr (j' := 0) rfl fo24_0 rfl) ?_
 refine o_p (p_load (i := 1) (v := Vi s.wide) rfl rfl sh3 rfl) ?_
 refine o_p (p_build (cells := [Vi s.wide, .slice none 0 0]) fp24 ze24 rfl rfl) ?_
 refine o_alloc ze24 rfl (fun B3 => ?_)
 refine o_storeN (i := 0) (vs := [Vi s.wide, .slice none 0 0]) (cs' := [Vi s.wide, .slice none 0 0]) rfl rfl rfl sz24 rfl rfl rfl rfl ?_
 refine o_nil (q_then (c_seq (c_seq (c_region ?_))))
 refine o_p (p_fieldAddr (j' := 1) rfl fo24_1 rfl) ?_
 refine o_p (p_load (i := 2) (v := .slice as_0 s.counts.length cs_0.n) rfl rfl sh22 rfl) ?_
 refine o_p (p_len_slice rfl rfl Try.underlying22) ?_
 refine o_mv rfl rfl ?_
 refine o_nil (q_then (c_block ?_))
 refine c_ownNilN tInt ?_
 refine c_loop (St := Nat × DSketch × Option Addr × NC × (Nat → Prop))
  (fun ⟨k, oo, aoo_0, coo_0, Soo_0⟩ => [(1, .func (.func gf) #[] kf.toArray), (4, .pointer (some ⟨B2, 0, none⟩)), (6, .pointer (some ⟨B3, 0, none⟩)), (16, .slice as_0 s.counts.length cs_0.n), (17, Vi (s.counts.length : Int)), (18, Vi (k : Int))])
  (fun ⟨k, oo, aoo_0, coo_0, Soo_0⟩ => [ownN tInt Soo_0 aoo_0 coo_0 oo.counts, box B3 [Vi oo.wide, .slice aoo_0 oo.counts.length coo_0.n] 24, box B2 [Vi 0, .slice none 0 0] 24, box B1 [Vi s.wide, .slice as_0 s.counts.length cs_0.n] 24, base w0])
  (fun ⟨k, oo, aoo_0, coo_0, Soo_0⟩ => Sk.MO f s oo k)
  (fun ⟨k, oo, aoo_0, coo_0, Soo_0⟩ => s.counts.length - k)
  (0, (⟨s.wide, []⟩ : DSketch), none, nc0, (fun _ => False)) ?_ (sr (sr (sr (sr (sr (sr (Sub.nil _))))))) (fun _ hw => hw) ?_
 ·exact Sk.MO.start f s
 rintro ⟨k, oo, aoo_0, coo_0, Soo_0⟩ hI K hK5
 have hO := hI
 have hkle := hI.1
 have hol := hI.len
 show SC _ _ Try.prog 53 w0 _ _ [(1, .func (.func gf) #[] kf.toArray), (4, .pointer (some ⟨B2, 0, none⟩)), (6, .pointer (some ⟨B3, 0, none⟩)), (16, .slice as_0 s.counts.length cs_0.n), (17, Vi (s.counts.length : Int)), (18, Vi (k : Int))] [ownN tInt Soo_0 aoo_0 coo_0 oo.counts, box B3 [Vi oo.wide, .slice aoo_0 oo.counts.length coo_0.n] 24, box B2 [Vi 0, .slice none 0 0] 24, box B1 [Vi s.wide, .slice as_0 s.counts.length cs_0.n] 24, base w0]
 refine c_seq (c_region ?_)
 refine o_p (p_lt rfl rfl) ?_
 refine o_nil (q_then (c_seq ?_))
 refine c_cond rfl (fun hc6 => ?_) (fun hc6 => ?_)
 ·simp only [decide_eq_true_eq] at hc6
  have hrw := hy1.vals.row (show k < s.counts.length by omega)
  have hrl := hy1.row_len (show k < s.counts.length by omega)
  refine c_skip (q_then (c_seq (c_block (c_seq (c_region ?_)))))
  refine o_mv rfl rfl ?_
  refine o_p (p_indexAddrN (T := tInt) (c := cs_0) (LL := s.counts) (i := (k : Int)) rfl rfl (rd_baseN (i := 4) rfl hs_0) Try.underlying22 sz37 (by first | omega | decide) (by first | omega | decide)) ?_
  refine o_p (p_loadN (T := tInt) (c := cs_0) (LL := s.counts) (i := k) rfl (rd_baseN (i := 4) rfl hs_0) (by first | assumption | omega | decide) sh37) ?_
  refine o_as rfl rfl ?_
  refine o_as rfl rfl ?_
  refine o_nil (q_then (c_seq (c_region ?_)))
  refine o_mv rfl rfl ?_
  refine o_callM rfl (clone_Int_ok (s.counts.getD k []) (cs_0.ra k) (cs_0.rc k) (by first | assumption | omega | (simp only [List.length_append, List.length_take, List.length_drop, List.length_cons, List.length_nil]; omega))) hf95 (fun w hw => (rd_rowN (i := k) (rd_baseN (i := 4) rfl hs_0) (by first | assumption | omega)) w hw) rfl (fun _ _ _ _ ha hA => SlO.agree ha hA) ?_
  rintro ⟨a9, c10⟩ S7
  refine o_know (fun w hw => own_len (i := 0) (T := tInt) hw rfl) (fun hlr11 => ?_)
  refine o_as rfl rfl ?_
  refine o_nil (q_then (c_seq (c_seq (c_region ?_))))
  refine o_mv rfl rfl ?_
  refine o_p (p_len_slice rfl rfl Try.underlying37) ?_
  refine o_mv rfl rfl ?_
  refine o_nil (q_then (c_block ?_))
  refine c_loop (St := Nat × List Int)
   (fun ⟨k2, ls⟩ => [(1, .func (.func gf) #[] kf.toArray), (4, .pointer (some ⟨B2, 0, none⟩)), (6, .pointer (some ⟨B3, 0, none⟩)), (7, Vi (k : Int)), (9, .slice a9 ls.length c10), (16, .slice as_0 s.counts.length cs_0.n), (17, Vi (s.counts.length : Int)), (18, Vi (k : Int)), (25, .slice (cs_0.ra k) (s.counts.getD k []).length (cs_0.rc k)), (26, Vi ((s.counts.getD k []).length : Int)), (27, Vi (k2 : Int))])
   (fun ⟨k2, ls⟩ => [own tInt S7 a9 c10 ls, ownN tInt Soo_0 aoo_0 coo_0 oo.counts, box B3 [Vi oo.wide, .slice aoo_0 oo.counts.length coo_0.n] 24, box B2 [Vi 0, .slice none 0 0] 24, box B1 [Vi s.wide, .slice as_0 s.counts.length cs_0.n] 24, base w0])
   (fun ⟨k2, ls⟩ => Sk.MI f k (s.counts.getD k []) ls k2)
   (fun ⟨k2, ls⟩ => (s.counts.getD k []).length - k2)
   (0, (s.counts.getD k [])) ?_ (sr (sr (sr (sr (sr (sr (sr (sr (sr (sr (sr (Sub.nil _)))))))))))) (fun _ hw => hw) ?_
  ·exact Sk.MI.start f k _
  rintro ⟨k2, ls⟩ hI K hK12
  have hk2 := hI.1
  have hml0 := hI.2.1
  show SC _ _ Try.prog 53 w0 _ _ [(1, .func (.func gf) #[] kf.toArray), (4, .pointer (some ⟨B2, 0, none⟩)), (6, .pointer (some ⟨B3, 0, none⟩)), (7, Vi (k : Int)), (9, .slice a9 ls.length c10), (16, .slice as_0 s.counts.length cs_0.n), (17, Vi (s.counts.length : Int)), (18, Vi (k : Int)), (25, .slice (cs_0.ra k) (s.counts.getD k []).length (cs_0.rc k)), (26, Vi ((s.counts.getD k []).length : Int)), (27, Vi (k2 : Int))] [own tInt S7 a9 c10 ls, ownN tInt Soo_0 aoo_0 coo_0 oo.counts, box B3 [Vi oo.wide, .slice aoo_0 oo.counts.length coo_0.n] 24, box B2 [Vi 0, .slice none 0 0] 24, box B1 [Vi s.wide, .slice as_0 s.counts.length cs_0.n] 24, base w0]
  refine c_seq (c_region ?_)
  refine o_p (p_lt rfl rfl) ?_
  refine o_nil (q_then (c_seq ?_))
  refine c_cond rfl (fun hc13 => ?_) (fun hc13 => ?_)
  ·simp only [decide_eq_true_eq] at hc13
   have hel := Sk.el_bd hrw.2 (show k2 < (s.counts.getD k []).length by omega)
   have hml := hI.2.1
   refine c_skip (q_then (c_seq (c_block (c_seq (c_region ?_)))))
   refine o_mv rfl rfl ?_
   refine o_p (p_indexAddr (L := (s.counts.getD k [])) (T := tInt) (i := (k2 : Int)) rfl rfl (rd_rowN (i := k) (rd_baseN (i := 5) rfl hs_0) (by first | assumption | omega)) Try.underlying37 sz3 (by omega) (by omega)) ?_
   refine o_p (p_loadE1 (i := k2) (T := tInt) (L := (s.counts.getD k [])) (v := Vi ((s.counts.getD k []).getD k2 default)) rfl (rd_rowN (i := k) (rd_baseN (i := 5) rfl hs_0) (by first | assumption | omega)) (by first | assumption | omega) sh3 (congrArg tInt.enc (getd_at (by first | assumption | omega) default))) ?_
   refine o_as rfl rfl ?_
   refine o_as rfl rfl ?_
   refine o_nil (q_then (c_region ?_))
   refine o_mv rfl rfl ?_
   refine o_mv rfl rfl ?_
   refine o_mv rfl rfl ?_
   refine o_mv rfl rfl ?_
   refine o_mv rfl rfl ?_
   refine o_mv rfl rfl ?_
   refine o_call0V (vs := [Vi (k : Int), Vi (k2 : Int), Vi ((s.counts.getD k []).getD k2 default)]) (caps := kf) (v := Vi (f (k : Int) (k2 : Int) ((s.counts.getD k []).getD k2 default))) rfl rfl (okf (k : Int) (k2 : Int) ((s.counts.getD k []).getD k2 default) (by first | assumption | omega)) hpf (pre_base (i := 5) rfl stf hf) rfl ?_
   refine o_p (p_indexAddr (L := ls) (T := tInt) (i := (k2 : Int)) rfl rfl (rd_own (i := 0) rfl) Try.underlying37 sz3 (by omega) (by omega)) ?_
   refine o_storeW (i := 0) (T := tInt) (idx := k2) (v := Vi (f (k : Int) (k2 : Int) ((s.counts.getD k []).getD k2 default))) (vs := [Vi (f (k : Int) (k2 : Int) ((s.counts.getD k []).getD k2 default))]) (z := (f (k : Int) (k2 : Int) ((s.counts.getD k []).getD k2 default))) (F' := [(1, .func (.func gf) #[] kf.toArray), (4, .pointer (some ⟨B2, 0, none⟩)), (6, .pointer (some ⟨B3, 0, none⟩)), (7, Vi (k : Int)), (9, .slice a9 (ls.set k2 (f (k : Int) (k2 : Int) ((s.counts.getD k []).getD k2 default))).length c10), (16, .slice as_0 s.counts.length cs_0.n), (17, Vi (s.counts.length : Int)), (18, Vi (k : Int)), (25, .slice (cs_0.ra k) (s.counts.getD k []).length (cs_0.rc k)), (26, Vi ((s.counts.getD k []).length : Int)), (27, Vi (k2 : Int))]) rfl rfl rfl rfl (by first | assumption | omega | (simp only [List.length_set]; omega)) sz3 rfl rfl rfl rfl (sr (sr (sr (sr (Sub.cons (by first | (simp only [List.length_set]; rfl) | (show some _ = some _; congr 2; rw [List.length_set]) | (rw [List.length_set]; rfl)) (sr (sr (sr (sr (sr (sr (Sub.nil _)))))))))))) ?_
   refine o_nil ?_
   refine q_block_normal (q_then ?_)
   refine c_region ?_
   refine o_p (p_addb rfl rfl (by omega)) ?_
   refine o_mv rfl rfl ?_
   refine o_nil ?_
   refine q_round hK12 (k2 + 1, (ls.set k2 (f (k : Int) (k2 : Int) ((s.counts.getD k []).getD k2 default)))) ?_ ?_ ?_ ?_
   ·clear hK12
    exact hI.next (by omega) rfl
   ·(try dsimp only); omega
   ·exact sr (sr (sr (sr (sr (sr (sr (sr (sr (sr (sr (Sub.nil _)))))))))))
   ·exact pk [0, 1, 2, 3, 4, 5]
  ·simp only [decide_eq_false_iff_not, Int.not_lt] at hc13
   have hml := hI.2.1
   have hdn := hI.done (by omega)
   refine c_exit ?_
   refine q_then_exit (q_then_exit (q_block_exit (q_then ?_)))
   refine c_seq (c_seq (c_region ?_))
   refine o_mv rfl rfl ?_
   refine o_call0 (v := Vi (Sk.maxL ls)) rfl (smax_ok ls a9 c10 (by first | assumption | omega)) hf96 (fun w hw => (rd_own (i := 0) rfl) w hw) rfl ?_
   refine o_p (p_gt rfl rfl) ?_
   refine o_nil (q_then ?_)
   refine c_cond rfl (fun hc14 => ?_) (fun hc14 => ?_)
   ·simp only [decide_eq_true_eq] at hc14
    have hmx : Sk.fitsRow ls = false := by rw [Sk.fits_max (by omega)]; exact decide_eq_false (by omega)
    refine c_seq (c_region ?_)
    refine o_p (p_build (cells := [Vi 0, .slice none 0 0]) fp24 ze24 rfl rfl) ?_
    refine o_storeN (i := 3) (vs := [Vi 0, .slice none 0 0]) (cs' := [Vi 0, .slice none 0 0]) rfl rfl rfl sz24 rfl rfl rfl rfl ?_
    refine o_as rfl rfl ?_
    refine o_nil (q_then (c_ret ?_))
    refine q_then_ret (q_block_ret (q_then_ret (q_then_ret (q_block_ret (q_then_ret ?_)))))
    obtain ⟨hm1, hm2⟩ : _ ∧ _ := by first | exact hI.done (by omega) | exact hO.bad (by omega) hdn hmx
    have hr0 : (0 : Int) = (Sk.mapS f s).wide := by
     first | (rw [hm1]; rfl) | (rw [hm1]; done) | (rw [hm2]; done) | exact hm2.symm
    have hr1 : ([] : List (List Int)) = (Sk.mapS f s).counts := by
     first | (rw [hm1]; rfl) | (rw [hm1]; done) | (rw [hm2]; done) | exact hm2.symm
    have hr2 : (false : Bool) = (Sk.mapOk f s) := by
     first | (rw [hm1]; rfl) | (rw [hm1]; done) | (rw [hm2]; done) | exact hm2.symm
    refine q_endM (p := (none, nc0)) (fun _ => False) (rt2 rfl (r_cell (i := 3) rfl rfl sh24 rfl) (r_tmp rfl)) (i := 5) rfl ?_ ?_ ?_
    ·exact (by have hcc := congr (congr (congrArg (fun (y0 : Int) (y1 : List (List Int)) (y2 : Bool) => (.tuple #[.agg #[.int .i64 y0, .slice none y1.length 0], .bool y2] : Value)) hr0) hr1) hr2; exact hcc)
    ·intro w hw b hb; exact hb.elim
    ·intro w hw; exact Eq.mp (congrArg (fun y => SlON tInt _ w none nc0 y) hr1) (SlON.nil tInt w)
   ·simp only [decide_eq_false_iff_not, Int.not_lt] at hc14
    have hmx : Sk.fitsRow ls = true := by rw [Sk.fits_max (by omega)]; exact decide_eq_true (by omega)
    refine c_skip (q_then (c_region ?_))
    refine o_p (p_fieldAddr (j' := 1) rfl fo24_1 rfl) ?_
    refine o_p (p_load (i := 2) (v := .slice aoo_0 oo.counts.length coo_0.n) rfl rfl sh22 rfl) ?_
    refine o_mv rfl rfl ?_
    refine o_buildSlice (m := 1) (T := tHdE) (L := [(⟨a9, ls.length, c10⟩ : HdE)]) (vs := [.slice a9 ls.length c10]) rfl rfl rfl rfl Try.underlying22 sz37 (by decide) ze37 rfl (by decide) rfl (fun S15 a16 => ?_)
    refine o_pick (H' := [ownN tInt Soo_0 aoo_0 coo_0 oo.counts, own tInt S7 a9 c10 ls, own tHdE S15 a16 ([(⟨a9, ls.length, c10⟩ : HdE)].length) ([(⟨a9, ls.length, c10⟩ : HdE)]), box B3 [Vi oo.wide, .slice aoo_0 oo.counts.length coo_0.n] 24, box B2 [Vi 0, .slice none 0 0] 24, box B1 [Vi s.wide, .slice as_0 s.counts.length cs_0.n] 24, base w0]) [2, 1, 0, 3, 4, 5, 6] (by decide) rfl ?_
    refine o_appendN (j := 0) (T := tInt) (c := coo_0) (LL := oo.counts) (L := ls) rfl rfl rfl Try.underlying22 Try.underlying22 (by intro k h; cases h) el37 (by first | omega | (simp only [List.length_cons, List.length_nil]; omega) | (simp only [List.length_append, List.length_cons, List.length_nil, List.length_take, List.length_drop]; omega)) rfl (fun a18 c19 S20 => ?_)
    refine o_p (p_fieldAddr (j' := 1) rfl fo24_1 rfl) ?_
    refine o_store (i := 2) (v := .slice a18 (oo.counts ++ [ls]).length (coo_0.push c19 oo.counts.length a9 c10).n) (cs' := [Vi oo.wide, .slice a18 (oo.counts ++ [ls]).length (coo_0.push c19 oo.counts.length a9 c10).n]) rfl rfl rfl sz22 rfl rfl rfl ?_
    refine o_nil ?_
    refine q_block_normal (q_then ?_)
    refine c_region ?_
    refine o_p (p_addb rfl rfl (by omega)) ?_
    refine o_mv rfl rfl ?_
    refine o_nil ?_
    refine q_round hK5 (k + 1, (⟨oo.wide, (oo.counts ++ [ls])⟩ : DSketch), a18, (coo_0.push c19 oo.counts.length a9 c10), S20) ?_ ?_ ?_ ?_
    ·clear hK5
     exact hO.next (by omega) hdn hmx
    ·(try dsimp only); omega
    ·exact sr (sr (sr (sr (sr (sr (Sub.nil _))))))
    ·exact pk [0, 2, 3, 4, 5]
 ·simp only [decide_eq_false_iff_not, Int.not_lt] at hc6
  refine c_exit ?_
  refine q_then_exit (q_then_exit (q_block_exit (q_then ?_)))
  refine c_seq (c_region ?_)
  refine o_p (p_load_agg (i := 1) (vs := [Vi oo.wide, .slice aoo_0 oo.counts.length coo_0.n]) rfl rfl sh24 rfl rfl) ?_
  refine o_storeN (i := 2) (vs := [Vi oo.wide, .slice aoo_0 oo.counts.length coo_0.n]) (cs' := [Vi oo.wide, .slice aoo_0 oo.counts.length coo_0.n]) rfl rfl rfl sz24 rfl rfl rfl rfl ?_
  refine o_as rfl rfl ?_
  refine o_nil (q_then (c_ret ?_))
  obtain ⟨hm1, hm2⟩ : _ ∧ _ := by first | exact hI.done (by omega) | exact hO.bad (by omega) hdn hmx
  have hr0 : (oo.wide : Int) = (Sk.mapS f s).wide := by
   first | (rw [hm1]; rfl) | (rw [hm1]; done) | (rw [hm2]; done) | exact hm2.symm
  have hr1 : (oo.counts : List (List Int)) = (Sk.mapS f s).counts := by
   first | (rw [hm1]; rfl) | (rw [hm1]; done) | (rw [hm2]; done) | exact hm2.symm
  have hr2 : (true : Bool) = (Sk.mapOk f s) := by
   first | (rw [hm1]; rfl) | (rw [hm1]; done) | (rw [hm2]; done) | exact hm2.symm
  refine q_endM (p := (aoo_0, coo_0)) Soo_0 (rt2 rfl (r_cell (i := 2) rfl rfl sh24 rfl) (r_tmp rfl)) (i := 4) rfl ?_ ?_ ?_
  ·exact (by have hcc := congr (congr (congrArg (fun (y0 : Int) (y1 : List (List Int)) (y2 : Bool) => (.tuple #[.agg #[.int .i64 y0, .slice aoo_0 y1.length coo_0.n], .bool y2] : Value)) hr0) hr1) hr2; exact hcc)
  ·exact fun w hw => hw.above (i := 4) (j := 0) (by decide) rfl rfl
  ·intro w hw; exact Eq.mp (congrArg (fun y => SlON tInt _ w aoo_0 coo_0 y) hr1) ((hw.at (i := 0) rfl).here)
end Go.Proofs.Ytnmbkopnopaigaa
