/- The walks, printed by a program from the translation and a specification. -/
import Derived.Test.YtnmbkopnopaigaaSkF
import Derived.Test.YtnmbkopnopaigaaSkLaw
import Derived.Test.YtnmbkopnopaigaaSkW5
import Derived.Test.YtnmbkopnopaigaaSkLaw4
namespace Go.Proofs.Ytnmbkopnopaigaa
open Go.Sx Go.RowKit
set_option maxHeartbeats 8000000 in
set_option maxRecDepth 100000 in
theorem sketchEstimate_ok (rows : Int) (wide : Int) (l : List ByteArray) (al : Option Addr) (cl : Nat) (i : Int) (hy1 : l.length ≤ 1048576) : Fn0 Try.prog 4 [Vi rows, Vi wide, .slice al l.length cl, Vi i] (fun w => Rd tStr w al cl l) (.bool true) := by
 refine fn0 (nt := 126) (F0 := [(0, Vi rows), (1, Vi wide), (2, .slice al l.length cl), (3, Vi i)]) Try.func4 rfl Try.ntmps4 rfl rfl (fun w0 hpre => ?_)
 have hl := hpre
 have hlhl := hl.2.1
 refine c_seq (c_region ?_)
 refine o_as rfl rfl ?_
 refine o_nil (q_then (c_seq (c_seq (c_region ?_))))
 refine o_call0 (v := .bool true) rfl (sketchBegun_ok ) hf25 (fun _ _ => trivial) rfl ?_
 refine o_p (p_not (b := true) rfl) ?_
 refine o_nil (q_then ?_)
 refine c_false rfl ?_
 refine c_skip (q_then (c_seq (c_seq (c_region ?_))))
 refine o_mv rfl rfl ?_
 refine o_p (p_lt rfl rfl) ?_
 refine o_mv rfl rfl ?_
 refine o_or (p := 25) 3 (decide (6 < rows)) ?_ ?_ ?_
 ·intro hb1 hk
  simp only [decide_eq_false_iff_not, Int.not_lt] at hb1
  refine o_unguard 22 rfl rfl ?_
  refine o_mv rfl rfl ?_
  refine o_unguard 22 rfl rfl ?_
  refine o_p (p_gt rfl rfl) ?_
  refine o_pf rfl rfl rfl ?_
  exact o_sub (sr (Sub.skip rfl (Sub.skip rfl (Sub.skip rfl (Sub.skip rfl (Sub.refl _)))))) hk
 ·intro hb1 hk
  refine o_guard_no rfl 22 rfl rfl rfl rfl rfl ?_
  refine o_guard_no rfl 22 rfl rfl rfl rfl rfl ?_
  refine o_pt rfl rfl rfl ?_
  exact o_sub (sr (Sub.skip rfl (Sub.skip rfl (Sub.skip rfl (Sub.skip rfl (Sub.refl _)))))) hk
 refine o_mv rfl rfl ?_
 refine o_or (p := 29) 3 (decide (wide < 1)) ?_ ?_ ?_
 ·intro hb2 hk
  simp only [Bool.or_eq_false_iff, decide_eq_false_iff_not, Int.not_lt] at hb2
  refine o_unguard 26 rfl rfl ?_
  refine o_mv rfl rfl ?_
  refine o_unguard 26 rfl rfl ?_
  refine o_p (p_lt rfl rfl) ?_
  refine o_pf rfl rfl rfl ?_
  exact o_sub (sr (Sub.skip rfl (Sub.skip rfl (Sub.skip rfl (Sub.skip rfl (Sub.refl _)))))) hk
 ·intro hb2 hk
  refine o_guard_no rfl 26 rfl rfl rfl rfl rfl ?_
  refine o_guard_no rfl 26 rfl rfl rfl rfl rfl ?_
  refine o_pt rfl rfl rfl ?_
  exact o_sub (sr (Sub.skip rfl (Sub.skip rfl (Sub.skip rfl (Sub.skip rfl (Sub.refl _)))))) hk
 refine o_mv rfl rfl ?_
 refine o_or (p := 33) 3 (decide (64 < wide)) ?_ ?_ ?_
 ·intro hb3 hk
  simp only [Bool.or_eq_false_iff, decide_eq_false_iff_not, Int.not_lt] at hb3
  refine o_unguard 30 rfl rfl ?_
  refine o_mv rfl rfl ?_
  refine o_unguard 30 rfl rfl ?_
  refine o_p (p_gt rfl rfl) ?_
  refine o_pf rfl rfl rfl ?_
  exact o_sub (sr (Sub.skip rfl (Sub.skip rfl (Sub.skip rfl (Sub.skip rfl (Sub.refl _)))))) hk
 ·intro hb3 hk
  refine o_guard_no rfl 30 rfl rfl rfl rfl rfl ?_
  refine o_guard_no rfl 30 rfl rfl rfl rfl rfl ?_
  refine o_pt rfl rfl rfl ?_
  exact o_sub (sr (Sub.skip rfl (Sub.skip rfl (Sub.skip rfl (Sub.skip rfl (Sub.refl _)))))) hk
 refine o_nil (q_then ?_)
 refine c_cond rfl (fun hc4 => ?_) (fun hc4 => ?_)
 ·simp only [Bool.or_eq_true, decide_eq_true_eq] at hc4
  refine c_seq (c_region ?_)
  refine o_as rfl rfl ?_
  refine o_nil (q_then (c_ret ?_))
  refine q_then_ret ?_
  refine q_end0 (v := .bool true) (rt1 rfl (r_tmp rfl)) (i := 0) rfl ?_
  exact rfl
 ·simp only [Bool.or_eq_false_iff, decide_eq_false_iff_not, Int.not_lt] at hc4
  obtain ⟨⟨⟨r1, r2⟩, r3⟩, r4⟩ : ((1 ≤ rows ∧ rows ≤ 6) ∧ 1 ≤ wide) ∧ wide ≤ 64 := by omega
  refine c_skip (q_then (c_seq (c_region ?_)))
  refine o_mv rfl rfl ?_
  refine o_mv rfl rfl ?_
  refine o_callM rfl (emptySketch_ok rows wide (by first | assumption | omega | decide)) hf28 (fun _ _ => trivial) rfl (fun _ _ _ _ ha hA => SlON.agree ha hA) ?_
  rintro ⟨a7, c8⟩ S5
  refine o_know (fun w hw => own_lenN (i := 0) (T := tInt) hw rfl) (fun hlr9 => ?_)
  refine o_alloc ze24 rfl (fun B10 => ?_)
  refine o_storeN (i := 0) (vs := [Vi ((Sk.empty rows wide).wide), .slice a7 ((Sk.empty rows wide).counts).length c8.n]) (cs' := [Vi ((Sk.empty rows wide).wide), .slice a7 ((Sk.empty rows wide).counts).length c8.n]) rfl rfl rfl sz24 rfl rfl rfl rfl ?_
  refine o_nil (q_then (c_seq (c_region ?_)))
  refine o_as rfl rfl ?_
  refine o_nil (q_then (c_seq (c_seq (c_region ?_))))
  refine o_as rfl rfl ?_
  refine o_nil (q_then (c_block ?_))
  refine c_loop (St := Int × Nat × DSketch × Option Addr × NC × (Nat → Prop))
   (fun ⟨many, k, ss, ass_0, css_0, Sss_0⟩ => [(2, .slice al l.length cl), (3, Vi i), (9, .pointer (some ⟨B10, 0, none⟩)), (10, Vi many), (11, Vi (k : Int))])
   (fun ⟨many, k, ss, ass_0, css_0, Sss_0⟩ => [box B10 [Vi ss.wide, .slice ass_0 ss.counts.length css_0.n] 24, ownN tInt Sss_0 ass_0 css_0 ss.counts, base w0])
   (fun ⟨many, k, ss, ass_0, css_0, Sss_0⟩ => Sk.EI rows wide l i ss many k)
   (fun ⟨many, k, ss, ass_0, css_0, Sss_0⟩ => l.length - k)
   (0, 0, (Sk.empty rows wide), a7, c8, S5) ?_ (sr (sr (sr (sr (sr (Sub.nil _)))))) (fun _ hw => hw) ?_
  ·exact Sk.EI.start ⟨by omega, by omega⟩ ⟨by omega, by omega⟩ l i
  rintro ⟨many, k, ss, ass_0, css_0, Sss_0⟩ hI K hK11
  have hkle := hI.le
  show SC _ _ Try.prog 126 w0 _ _ [(2, .slice al l.length cl), (3, Vi i), (9, .pointer (some ⟨B10, 0, none⟩)), (10, Vi many), (11, Vi (k : Int))] [box B10 [Vi ss.wide, .slice ass_0 ss.counts.length css_0.n] 24, ownN tInt Sss_0 ass_0 css_0 ss.counts, base w0]
  refine c_seq (c_seq (c_region ?_))
  refine o_mv rfl rfl ?_
  refine o_mv rfl rfl ?_
  refine o_p (p_len_slice rfl rfl Try.underlying44) ?_
  refine o_p (p_lt rfl rfl) ?_
  refine o_nil (q_then ?_)
  refine c_cond rfl (fun hc12 => ?_) (fun hc12 => ?_)
  ·simp only [decide_eq_true_eq] at hc12
   refine c_skip (q_then (c_seq (c_block (c_seq ?_))))
   refine c_cut (G := (Nat → Prop) × Option Addr × NC × Nat) (fun ⟨S13_5, a13_5, c13_5, B13_9⟩ => [(2, .slice al l.length cl), (3, Vi i), (9, .pointer (some ⟨B10, 0, none⟩)), (10, Vi many), (11, Vi (k : Int)), (12, .pointer (some ⟨B13_9, 0, none⟩)), (13, Vi (Sk.addErr ss (l.getD k default) (1 : Int)))]) (fun ⟨S13_5, a13_5, c13_5, B13_9⟩ => [box B13_9 [Vi ((Sk.add ss (l.getD k default) (1 : Int)).wide), .slice a13_5 ((Sk.add ss (l.getD k default) (1 : Int)).counts).length c13_5.n] 24, ownN tInt S13_5 a13_5 c13_5 ((Sk.add ss (l.getD k default) (1 : Int)).counts), box B10 [Vi ss.wide, .slice ass_0 ss.counts.length css_0.n] 24, ownN tInt Sss_0 ass_0 css_0 ss.counts, base w0]) (fun K hK14 => ?_) ?_
   ·refine c_held hmix [box B10 [Vi ss.wide, .slice ass_0 ss.counts.length css_0.n] 24, ownN tInt Sss_0 ass_0 css_0 ss.counts, base w0] rfl rfl ?_
    refine h_t0 (i := 0) (ls := #[T1,F0,F0,F0,F0,F0,F0,F0,F0,F0,F0,F0]) rfl (p_load_agg (i := 0) (vs := [Vi ss.wide, .slice ass_0 ss.counts.length css_0.n]) rfl rfl sh24 rfl rfl) ?_
    refine h_t0 (i := 1) (ls := #[T1,T1,F0,F0,F0,F0,F0,F0,F0,F0,F0,F0]) rfl (p_move rfl) ?_
    refine h_t0 (i := 2) (ls := #[T1,T1,T1,F0,F0,F0,F0,F0,F0,F0,F0,F0]) rfl (p_move rfl) ?_
    refine h_t0 (i := 3) (ls := #[T1,T1,T1,T1,F0,F0,F0,F0,F0,F0,F0,F0]) rfl (p_indexAddr (L := l) (T := tStr) (i := (k : Int)) rfl rfl (rd_base (i := 2) rfl hl) Try.underlying44 sz9 (by omega) (by omega)) ?_
    refine h_t0 (i := 4) (ls := #[T1,T1,T1,T1,T1,F0,F0,F0,F0,F0,F0,F0]) rfl (p_loadE1 (i := k) (T := tStr) (L := l) (v := .string (l.getD k default)) rfl (rd_base (i := 2) rfl hl) (by first | assumption | omega) sh9 (congrArg tStr.enc (getd_at (by first | assumption | omega) default))) ?_
    refine h_two (i := 5) (j := 9) (ls := #[T1,T1,T1,T1,T1,T1,F0,F0,F0,F0,F0,F0]) (ls' := #[T1,T1,T1,T1,T1,F0,F0,F0,F0,T1,F0,F0]) (by kernel_rfl) rfl rfl rfl rfl ?_ ?_
    ·refine o_callM rfl (sadd_ok ss ass_0 css_0 (l.getD k default) (1 : Int)) hf13 (fun w hw => (rd_ownN (i := 1) rfl) w hw) rfl (fun _ _ _ _ ha hA => SlON.agree ha hA) ?_
     rintro ⟨a13_5, c13_5⟩ S13_5
     refine o_know (fun w hw => own_lenN (i := 0) (T := tInt) hw rfl) (fun hlr13_5 => ?_)
     refine o_nil ?_
     refine h_next (dp (lz (lj (lj (lj (ln)))))) ?_
     refine h_tk (i := 6) (ls := #[T1,T1,T1,T1,T1,T1,T1,F0,F0,F0,F0,F0]) rfl (p_move rfl) (dp (lz (lj (lj (lj (ln)))))) ?_
     refine h_tk (i := 7) (ls := #[T1,T1,T1,T1,T1,T1,T1,T1,F0,F0,F0,F0]) rfl (p_extract rfl rfl) (dp (lz (lj (lj (lj (ln)))))) ?_
     refine h_tk (i := 8) (ls := #[T1,T1,T1,T1,T1,T1,T1,T1,T1,F0,F0,F0]) rfl (p_extract rfl rfl) (dp (lz (lj (lj (lj (ln)))))) ?_
     refine h_one (i := 9) (ls := #[T1,T1,T1,T1,T1,T1,T1,T1,T1,T1,F0,F0]) (by kernel_rfl) rfl rfl ?_
     refine o_alloc ze24 rfl (fun B13_9 => ?_)
     refine o_nil ?_
     refine h_next (dp (lz (lz (lj (lj (lj (ln))))))) ?_
     refine h_one (i := 10) (ls := #[T1,T1,T1,T1,T1,T1,T1,T1,T1,T1,T1,F0]) (by kernel_rfl) rfl rfl ?_
     refine o_storeN (i := 0) (vs := [Vi ((Sk.add ss (l.getD k default) (1 : Int)).wide), .slice a13_5 ((Sk.add ss (l.getD k default) (1 : Int)).counts).length c13_5.n]) (cs' := [Vi ((Sk.add ss (l.getD k default) (1 : Int)).wide), .slice a13_5 ((Sk.add ss (l.getD k default) (1 : Int)).counts).length c13_5.n]) rfl rfl rfl sz24 rfl rfl rfl rfl ?_
     refine o_nil ?_
     refine h_next (dp (lz (lz (lj (lj (lj (ln))))))) ?_
     refine h_tk (i := 11) (ls := #[T1,T1,T1,T1,T1,T1,T1,T1,T1,T1,T1,T1]) rfl (p_assign rfl) (dp (lz (lz (lj (lj (lj (ln))))))) ?_
     refine h_done (by kernel_rfl) ?_
     refine q_kont hK14 (S13_5, a13_5, c13_5, B13_9) (sr (sr (sr (sr (sr (sr (sr (Sub.nil _)))))))) (pk [0, 1, 2, 3, 4])
    ·refine o_alloc ze24 rfl (fun B13_9 => ?_)
     refine o_nil ?_
     refine h_next (dp (lz (lj (lj (lj (ln)))))) ?_
     refine h_one (i := 5) (ls := #[T1,T1,T1,T1,T1,T1,F0,F0,F0,T1,F0,F0]) (by kernel_rfl) rfl rfl ?_
     refine o_callM rfl (sadd_ok ss ass_0 css_0 (l.getD k default) (1 : Int)) hf13 (fun w hw => (rd_ownN (i := 2) rfl) w hw) rfl (fun _ _ _ _ ha hA => SlON.agree ha hA) ?_
     rintro ⟨a13_5, c13_5⟩ S13_5
     refine o_know (fun w hw => own_lenN (i := 0) (T := tInt) hw rfl) (fun hlr13_5 => ?_)
     refine o_nil ?_
     refine h_next (dp (lz (lz (lj (lj (lj (ln))))))) ?_
     refine h_tk (i := 6) (ls := #[T1,T1,T1,T1,T1,T1,T1,F0,F0,T1,F0,F0]) rfl (p_move rfl) (dp (lz (lz (lj (lj (lj (ln))))))) ?_
     refine h_tk (i := 7) (ls := #[T1,T1,T1,T1,T1,T1,T1,T1,F0,T1,F0,F0]) rfl (p_extract rfl rfl) (dp (lz (lz (lj (lj (lj (ln))))))) ?_
     refine h_tk (i := 8) (ls := #[T1,T1,T1,T1,T1,T1,T1,T1,T1,T1,F0,F0]) rfl (p_extract rfl rfl) (dp (lz (lz (lj (lj (lj (ln))))))) ?_
     refine h_one (i := 10) (ls := #[T1,T1,T1,T1,T1,T1,T1,T1,T1,T1,T1,F0]) (by kernel_rfl) rfl rfl ?_
     refine o_storeN (i := 1) (vs := [Vi ((Sk.add ss (l.getD k default) (1 : Int)).wide), .slice a13_5 ((Sk.add ss (l.getD k default) (1 : Int)).counts).length c13_5.n]) (cs' := [Vi ((Sk.add ss (l.getD k default) (1 : Int)).wide), .slice a13_5 ((Sk.add ss (l.getD k default) (1 : Int)).counts).length c13_5.n]) rfl rfl rfl sz24 rfl rfl rfl rfl ?_
     refine o_nil ?_
     refine h_next (dp (lz (lz (lj (lj (lj (ln))))))) ?_
     refine h_tk (i := 11) (ls := #[T1,T1,T1,T1,T1,T1,T1,T1,T1,T1,T1,T1]) rfl (p_assign rfl) (dp (lz (lz (lj (lj (lj (ln))))))) ?_
     refine h_done (by kernel_rfl) ?_
     refine q_kont hK14 (S13_5, a13_5, c13_5, B13_9) (sr (sr (sr (sr (sr (sr (sr (Sub.nil _)))))))) (pk [1, 0, 2, 3, 4])
   rintro ⟨S13_5, a13_5, c13_5, B13_9⟩
   show SQ _ 126 w0 _ _ [(2, .slice al l.length cl), (3, Vi i), (9, .pointer (some ⟨B10, 0, none⟩)), (10, Vi many), (11, Vi (k : Int)), (12, .pointer (some ⟨B13_9, 0, none⟩)), (13, Vi (Sk.addErr ss (l.getD k default) (1 : Int)))] [box B13_9 [Vi ((Sk.add ss (l.getD k default) (1 : Int)).wide), .slice a13_5 ((Sk.add ss (l.getD k default) (1 : Int)).counts).length c13_5.n] 24, ownN tInt S13_5 a13_5 c13_5 ((Sk.add ss (l.getD k default) (1 : Int)).counts), box B10 [Vi ss.wide, .slice ass_0 ss.counts.length css_0.n] 24, ownN tInt Sss_0 ass_0 css_0 ss.counts, base w0]
   refine q_know (fun w hw => own_lenN (i := 1) (T := tInt) hw rfl) (fun hlr15 => ?_)
   refine q_then (c_seq (c_seq (c_region ?_)))
   refine o_mv rfl rfl ?_
   refine o_p (p_ne rfl rfl) ?_
   refine o_nil (q_then ?_)
   refine c_cond rfl (fun hc16 => ?_) (fun hc16 => ?_)
   ·simp only [bne_iff_ne, ne_eq] at hc16
    have hbad := hc16
    refine c_seq (c_region ?_)
    refine o_mv rfl rfl ?_
    refine o_p (p_eq rfl rfl) ?_
    refine o_as rfl rfl ?_
    refine o_nil (q_then (c_ret ?_))
    refine q_then_ret (q_block_ret (q_then_ret (q_then_ret (q_block_ret (q_then_ret ?_)))))
    have hr0 : (((Sk.addErr ss (l.getD k default) (1 : Int)) == 2) : Bool) = true := by
     first | rfl | exact hI.bad (by omega) hy1 hbad | (simp only [e1, beq_self_eq_true, Bool.true_and, Bool.and_eq_true, decide_eq_true_eq]; omega) | (simp [e1, e2, e3]; done)
    refine q_end0 (v := .bool ((Sk.addErr ss (l.getD k default) (1 : Int)) == 2)) (rt1 rfl (r_tmp rfl)) (i := 4) rfl ?_
    exact (by have hcc := congrArg (fun (y0 : Bool) => (.bool y0 : Value)) hr0; exact hcc)
   ·simp only [bne_eq_false_iff_eq] at hc16
    have he := hc16
    have hE := hI
    refine c_skip (q_then (c_seq (c_region ?_)))
    refine o_p (p_load_agg (i := 0) (vs := [Vi ((Sk.add ss (l.getD k default) (1 : Int)).wide), .slice a13_5 ((Sk.add ss (l.getD k default) (1 : Int)).counts).length c13_5.n]) rfl rfl sh24 rfl rfl) ?_
    refine o_storeN (i := 2) (vs := [Vi ((Sk.add ss (l.getD k default) (1 : Int)).wide), .slice a13_5 ((Sk.add ss (l.getD k default) (1 : Int)).counts).length c13_5.n]) (cs' := [Vi ((Sk.add ss (l.getD k default) (1 : Int)).wide), .slice a13_5 ((Sk.add ss (l.getD k default) (1 : Int)).counts).length c13_5.n]) rfl rfl rfl sz24 rfl rfl rfl rfl ?_
    refine o_nil (q_then (c_seq ?_))
    refine c_draw hmix (by kernel_rfl) ?_
    refine w_mv rfl rfl ?_
    refine w_p (p_ge rfl rfl) ?_
    refine w_mv rfl rfl ?_
    refine w_and (p := 64) 5 (decide (i < (l.length : Int))) ?_ ?_ ?_
    ·intro hb17 hk
     simp only [decide_eq_true_eq] at hb17
     refine w_unguard 59 rfl rfl ?_
     refine w_mv rfl rfl ?_
     refine w_unguard 59 rfl rfl ?_
     refine w_mv rfl rfl ?_
     refine w_unguard 59 rfl rfl ?_
     refine w_p (p_len_slice rfl rfl Try.underlying44) ?_
     refine w_unguard 59 rfl rfl ?_
     refine w_p (p_lt rfl rfl) ?_
     refine w_pt rfl rfl rfl ?_
     exact w_sub (sr (Sub.skip rfl (Sub.skip rfl (Sub.skip rfl (Sub.skip rfl (Sub.skip rfl (Sub.skip rfl (Sub.refl _)))))))) hk
    ·intro hb17 hk
     refine w_guard_no rfl 59 rfl rfl rfl rfl rfl ?_
     refine w_guard_no rfl 59 rfl rfl rfl rfl rfl ?_
     refine w_guard_no rfl 59 rfl rfl rfl rfl rfl ?_
     refine w_guard_no rfl 59 rfl rfl rfl rfl rfl ?_
     refine w_pf rfl rfl rfl ?_
     exact w_sub (sr (Sub.skip rfl (Sub.skip rfl (Sub.skip rfl (Sub.skip rfl (Sub.skip rfl (Sub.skip rfl (Sub.refl _)))))))) hk
    refine w_mv rfl rfl ?_
    refine w_and (p := 75) 10 (decide ((l.getD k default) = (l.getD i.toNat default))) ?_ ?_ ?_
    ·intro hb18 hk
     simp only [Bool.and_eq_true, decide_eq_true_eq] at hb18
     refine w_unguard 65 rfl rfl ?_
     refine w_mv rfl rfl ?_
     refine w_unguard 65 rfl rfl ?_
     refine w_mv rfl rfl ?_
     refine w_unguard 65 rfl rfl ?_
     refine w_p (p_indexAddr (L := l) (T := tStr) (i := (k : Int)) rfl rfl (rd_base (i := 4) rfl hl) Try.underlying44 sz9 (by omega) (by omega)) ?_
     refine w_unguard 65 rfl rfl ?_
     refine w_p (p_loadE1 (i := k) (T := tStr) (L := l) (v := .string (l.getD k default)) rfl (rd_base (i := 4) rfl hl) (by first | assumption | omega) sh9 (congrArg tStr.enc (getd_at (by first | assumption | omega) default))) ?_
     refine w_unguard 65 rfl rfl ?_
     refine w_mv rfl rfl ?_
     refine w_unguard 65 rfl rfl ?_
     refine w_mv rfl rfl ?_
     refine w_unguard 65 rfl rfl ?_
     refine w_p (p_indexAddr (L := l) (T := tStr) (i := i) rfl rfl (rd_base (i := 4) rfl hl) Try.underlying44 sz9 (by omega) (by omega)) ?_
     refine w_unguard 65 rfl rfl ?_
     refine w_p (p_loadE1 (i := i.toNat) (T := tStr) (L := l) (v := .string (l.getD i.toNat default)) rfl (rd_base (i := 4) rfl hl) (by first | assumption | omega) sh9 (congrArg tStr.enc (getd_at (by first | assumption | omega) default))) ?_
     refine w_unguard 65 rfl rfl ?_
     refine w_p (p_eqStr (s := (l.getD k default)) (t := (l.getD i.toNat default)) rfl rfl) ?_
     refine w_pt rfl rfl rfl ?_
     exact w_sub (sr (Sub.skip rfl (Sub.skip rfl (Sub.skip rfl (Sub.skip rfl (Sub.skip rfl (Sub.skip rfl (Sub.skip rfl (Sub.skip rfl (Sub.skip rfl (Sub.skip rfl (Sub.skip rfl (Sub.refl _))))))))))))) hk
    ·intro hb18 hk
     refine w_guard_no rfl 65 rfl rfl rfl rfl rfl ?_
     refine w_guard_no rfl 65 rfl rfl rfl rfl rfl ?_
     refine w_guard_no rfl 65 rfl rfl rfl rfl rfl ?_
     refine w_guard_no rfl 65 rfl rfl rfl rfl rfl ?_
     refine w_guard_no rfl 65 rfl rfl rfl rfl rfl ?_
     refine w_guard_no rfl 65 rfl rfl rfl rfl rfl ?_
     refine w_guard_no rfl 65 rfl rfl rfl rfl rfl ?_
     refine w_guard_no rfl 65 rfl rfl rfl rfl rfl ?_
     refine w_guard_no rfl 65 rfl rfl rfl rfl rfl ?_
     refine w_pf rfl rfl rfl ?_
     exact w_sub (sr (Sub.skip rfl (Sub.skip rfl (Sub.skip rfl (Sub.skip rfl (Sub.skip rfl (Sub.skip rfl (Sub.skip rfl (Sub.skip rfl (Sub.skip rfl (Sub.skip rfl (Sub.skip rfl (Sub.refl _))))))))))))) hk
    refine w_nil (q_then ?_)
    refine c_cond rfl (fun hc19 => ?_) (fun hc19 => ?_)
    ·simp only [Bool.and_eq_true, decide_eq_true_eq] at hc19
     have hin := hc19
     refine c_region ?_
     refine o_mv rfl rfl ?_
     refine o_p (p_addb rfl rfl (by have h8 := hI.mle; have h9 := hI.m0; omega)) ?_
     refine o_as rfl rfl ?_
     refine o_nil ?_
     refine q_block_normal (q_then ?_)
     refine c_region ?_
     refine o_mv rfl rfl ?_
     refine o_p (p_addb rfl rfl (by omega)) ?_
     refine o_as rfl rfl ?_
     refine o_nil ?_
     refine q_round hK11 ((many + 1), k + 1, (Sk.add ss (l.getD k default) (1 : Int)), a13_5, c13_5, S13_5) ?_ ?_ ?_ ?_
     ·clear hK11
      first | exact hE.next (by omega) he (.inl ⟨rfl, ⟨by omega, by omega⟩, hin.2⟩) | exact hE.next (by omega) he (.inr ⟨rfl, fun h9 => by obtain ⟨⟨h7, h8⟩, h6⟩ := h9; rcases hin with h5 | h5; omega; exact h5 h6⟩)
     ·(try dsimp only); omega
     ·exact sr (sr (sr (sr (sr (Sub.nil _)))))
     ·exact pk [2, 1, 4]
    ·simp only [Bool.and_eq_false_iff, decide_eq_false_iff_not, Int.not_le, Int.not_lt] at hc19
     have hin := hc19
     refine c_skip ?_
     refine q_block_normal (q_then ?_)
     refine c_region ?_
     refine o_mv rfl rfl ?_
     refine o_p (p_addb rfl rfl (by omega)) ?_
     refine o_as rfl rfl ?_
     refine o_nil ?_
     refine q_round hK11 (many, k + 1, (Sk.add ss (l.getD k default) (1 : Int)), a13_5, c13_5, S13_5) ?_ ?_ ?_ ?_
     ·clear hK11
      first | exact hE.next (by omega) he (.inl ⟨rfl, ⟨by omega, by omega⟩, hin.2⟩) | exact hE.next (by omega) he (.inr ⟨rfl, fun h9 => by obtain ⟨⟨h7, h8⟩, h6⟩ := h9; rcases hin with h5 | h5; omega; exact h5 h6⟩)
     ·(try dsimp only); omega
     ·exact sr (sr (sr (sr (sr (Sub.nil _)))))
     ·exact pk [2, 1, 4]
  ·simp only [decide_eq_false_iff_not, Int.not_lt] at hc12
   refine c_exit ?_
   refine q_then_exit (q_then_exit (q_block_exit (q_then ?_)))
   refine c_seq (c_region ?_)
   refine o_p (p_load_agg (i := 0) (vs := [Vi ss.wide, .slice ass_0 ss.counts.length css_0.n]) rfl rfl sh24 rfl rfl) ?_
   refine o_call0 (v := .tuple #[Vi (Sk.total ss), Vi (Sk.check ss)]) rfl (stotal_ok ss ass_0 css_0) hf17 (fun w hw => (rd_ownN (i := 1) rfl) w hw) rfl ?_
   refine o_mv rfl rfl ?_
   refine o_ex rfl rfl rfl ?_
   refine o_ex rfl rfl rfl ?_
   refine o_as rfl rfl ?_
   refine o_as rfl rfl ?_
   refine o_nil (q_then (c_seq (c_seq (c_region ?_))))
   refine o_mv rfl rfl ?_
   refine o_p (p_ne rfl rfl) ?_
   refine o_mv rfl rfl ?_
   refine o_or (p := 90) 5 ((Sk.total ss) != (l.length : Int)) ?_ ?_ ?_
   ·intro hb20 hk
    simp only [bne_eq_false_iff_eq] at hb20
    refine o_unguard 85 rfl rfl ?_
    refine o_mv rfl rfl ?_
    refine o_unguard 85 rfl rfl ?_
    refine o_mv rfl rfl ?_
    refine o_unguard 85 rfl rfl ?_
    refine o_p (p_len_slice rfl rfl Try.underlying44) ?_
    refine o_unguard 85 rfl rfl ?_
    refine o_p (p_ne rfl rfl) ?_
    refine o_pf rfl rfl rfl ?_
    exact o_sub (sr (Sub.skip rfl (Sub.skip rfl (Sub.skip rfl (Sub.skip rfl (Sub.skip rfl (Sub.skip rfl (Sub.refl _)))))))) hk
   ·intro hb20 hk
    refine o_guard_no rfl 85 rfl rfl rfl rfl rfl ?_
    refine o_guard_no rfl 85 rfl rfl rfl rfl rfl ?_
    refine o_guard_no rfl 85 rfl rfl rfl rfl rfl ?_
    refine o_guard_no rfl 85 rfl rfl rfl rfl rfl ?_
    refine o_pt rfl rfl rfl ?_
    exact o_sub (sr (Sub.skip rfl (Sub.skip rfl (Sub.skip rfl (Sub.skip rfl (Sub.skip rfl (Sub.skip rfl (Sub.refl _)))))))) hk
   refine o_mv rfl rfl ?_
   refine o_or (p := 95) 4 ((Sk.check ss) != 0) ?_ ?_ ?_
   ·intro hb21 hk
    simp only [Bool.or_eq_false_iff, bne_eq_false_iff_eq] at hb21
    refine o_unguard 91 rfl rfl ?_
    refine o_p (p_load_agg (i := 0) (vs := [Vi ss.wide, .slice ass_0 ss.counts.length css_0.n]) rfl rfl sh24 rfl rfl) ?_
    refine o_unguard 91 rfl rfl ?_
    refine o_call0 (v := Vi (Sk.check ss)) rfl (scheck_ok ss ass_0 css_0) hf26 (fun w hw => (rd_ownN (i := 1) rfl) w hw) rfl ?_
    refine o_unguard 91 rfl rfl ?_
    refine o_p (p_ne rfl rfl) ?_
    refine o_pf rfl rfl rfl ?_
    exact o_sub (sr (Sub.skip rfl (Sub.skip rfl (Sub.skip rfl (Sub.skip rfl (Sub.skip rfl (Sub.refl _))))))) hk
   ·intro hb21 hk
    refine o_guard_no rfl 91 rfl rfl rfl rfl rfl ?_
    refine o_guard_no rfl 91 rfl rfl rfl rfl rfl ?_
    refine o_guard_no rfl 91 rfl rfl rfl rfl rfl ?_
    refine o_pt rfl rfl rfl ?_
    exact o_sub (sr (Sub.skip rfl (Sub.skip rfl (Sub.skip rfl (Sub.skip rfl (Sub.skip rfl (Sub.refl _))))))) hk
   refine o_nil (q_then ?_)
   refine c_cond rfl (fun hc22 => ?_) (fun hc22 => ?_)
   ·simp only [Bool.or_eq_true, bne_iff_ne, ne_eq] at hc22
    exfalso; obtain ⟨d1, d2⟩ := hI.done (by omega); omega
   ·simp only [Bool.or_eq_false_iff, bne_eq_false_iff_eq] at hc22
    refine c_skip (q_then (c_seq (c_seq (c_region ?_))))
    refine o_mv rfl rfl ?_
    refine o_p (p_lt rfl rfl) ?_
    refine o_mv rfl rfl ?_
    refine o_or (p := 103) 5 (decide ((l.length : Int) ≤ i)) ?_ ?_ ?_
    ·intro hb23 hk
     simp only [decide_eq_false_iff_not, Int.not_lt] at hb23
     refine o_unguard 98 rfl rfl ?_
     refine o_mv rfl rfl ?_
     refine o_unguard 98 rfl rfl ?_
     refine o_mv rfl rfl ?_
     refine o_unguard 98 rfl rfl ?_
     refine o_p (p_len_slice rfl rfl Try.underlying44) ?_
     refine o_unguard 98 rfl rfl ?_
     refine o_p (p_ge rfl rfl) ?_
     refine o_pf rfl rfl rfl ?_
     exact o_sub (sr (Sub.skip rfl (Sub.skip rfl (Sub.skip rfl (Sub.skip rfl (Sub.skip rfl (Sub.skip rfl (Sub.refl _)))))))) hk
    ·intro hb23 hk
     refine o_guard_no rfl 98 rfl rfl rfl rfl rfl ?_
     refine o_guard_no rfl 98 rfl rfl rfl rfl rfl ?_
     refine o_guard_no rfl 98 rfl rfl rfl rfl rfl ?_
     refine o_guard_no rfl 98 rfl rfl rfl rfl rfl ?_
     refine o_pt rfl rfl rfl ?_
     exact o_sub (sr (Sub.skip rfl (Sub.skip rfl (Sub.skip rfl (Sub.skip rfl (Sub.skip rfl (Sub.skip rfl (Sub.refl _)))))))) hk
    refine o_nil (q_then ?_)
    refine c_cond rfl (fun hc24 => ?_) (fun hc24 => ?_)
    ·simp only [Bool.or_eq_true, decide_eq_true_eq] at hc24
     refine c_seq (c_region ?_)
     refine o_as rfl rfl ?_
     refine o_nil (q_then (c_ret ?_))
     refine q_then_ret ?_
     refine q_end0 (v := .bool true) (rt1 rfl (r_tmp rfl)) (i := 2) rfl ?_
     exact rfl
    ·simp only [Bool.or_eq_false_iff, decide_eq_false_iff_not, Int.not_lt, Int.not_le] at hc24
     have hrng : Sk.inR l i := by unfold Sk.inR; omega
     obtain ⟨e1, e2, e3⟩ := hI.est (by omega) hrng
     refine c_skip (q_then (c_seq ?_))
     refine c_draw hmix (by kernel_rfl) ?_
     refine w_p (p_load_agg (i := 0) (vs := [Vi ss.wide, .slice ass_0 ss.counts.length css_0.n]) rfl rfl sh24 rfl rfl) ?_
     refine w_mv rfl rfl ?_
     refine w_mv rfl rfl ?_
     refine w_p (p_indexAddr (L := l) (T := tStr) (i := i) rfl rfl (rd_base (i := 2) rfl hl) Try.underlying44 sz9 (by omega) (by omega)) ?_
     refine w_p (p_loadE1 (i := i.toNat) (T := tStr) (L := l) (v := .string (l.getD i.toNat default)) rfl (rd_base (i := 2) rfl hl) (by first | assumption | omega) sh9 (congrArg tStr.enc (getd_at (by first | assumption | omega) default))) ?_
     refine w_call0 (v := .tuple #[Vi (Sk.est ss (l.getD i.toNat default)), Vi (Sk.keyErr ss (l.getD i.toNat default))]) rfl (sest_ok ss ass_0 css_0 (l.getD i.toNat default)) hf14 (fun w hw => (rd_ownN (i := 1) rfl) w hw) rfl ?_
     refine w_mv rfl rfl ?_
     refine w_p (p_extract rfl rfl) ?_
     refine w_p (p_extract rfl rfl) ?_
     refine w_p (p_assign rfl) ?_
     refine w_p (p_assign rfl) ?_
     refine w_nil (q_then (c_seq (c_region ?_)))
     refine o_mv rfl rfl ?_
     refine o_p (p_eq rfl rfl) ?_
     refine o_mv rfl rfl ?_
     refine o_and (p := 119) 4 (decide (many ≤ (Sk.est ss (l.getD i.toNat default)))) ?_ ?_ ?_
     ·intro hb25 hk
      simp only [beq_iff_eq] at hb25
      refine o_unguard 115 rfl rfl ?_
      refine o_mv rfl rfl ?_
      refine o_unguard 115 rfl rfl ?_
      refine o_mv rfl rfl ?_
      refine o_unguard 115 rfl rfl ?_
      refine o_p (p_ge rfl rfl) ?_
      refine o_pt rfl rfl rfl ?_
      exact o_sub (sr (Sub.skip rfl (Sub.skip rfl (Sub.skip rfl (Sub.skip rfl (Sub.skip rfl (Sub.refl _))))))) hk
     ·intro hb25 hk
      refine o_guard_no rfl 115 rfl rfl rfl rfl rfl ?_
      refine o_guard_no rfl 115 rfl rfl rfl rfl rfl ?_
      refine o_guard_no rfl 115 rfl rfl rfl rfl rfl ?_
      refine o_pf rfl rfl rfl ?_
      exact o_sub (sr (Sub.skip rfl (Sub.skip rfl (Sub.skip rfl (Sub.skip rfl (Sub.skip rfl (Sub.refl _))))))) hk
     refine o_mv rfl rfl ?_
     refine o_and (p := 125) 5 (decide ((Sk.est ss (l.getD i.toNat default)) ≤ (l.length : Int))) ?_ ?_ ?_
     ·intro hb26 hk
      simp only [Bool.and_eq_true, beq_iff_eq, decide_eq_true_eq] at hb26
      refine o_unguard 120 rfl rfl ?_
      refine o_mv rfl rfl ?_
      refine o_unguard 120 rfl rfl ?_
      refine o_mv rfl rfl ?_
      refine o_unguard 120 rfl rfl ?_
      refine o_p (p_len_slice rfl rfl Try.underlying44) ?_
      refine o_unguard 120 rfl rfl ?_
      refine o_p (p_le rfl rfl) ?_
      refine o_pt rfl rfl rfl ?_
      exact o_sub (sr (Sub.skip rfl (Sub.skip rfl (Sub.skip rfl (Sub.skip rfl (Sub.skip rfl (Sub.skip rfl (Sub.refl _)))))))) hk
     ·intro hb26 hk
      refine o_guard_no rfl 120 rfl rfl rfl rfl rfl ?_
      refine o_guard_no rfl 120 rfl rfl rfl rfl rfl ?_
      refine o_guard_no rfl 120 rfl rfl rfl rfl rfl ?_
      refine o_guard_no rfl 120 rfl rfl rfl rfl rfl ?_
      refine o_pf rfl rfl rfl ?_
      exact o_sub (sr (Sub.skip rfl (Sub.skip rfl (Sub.skip rfl (Sub.skip rfl (Sub.skip rfl (Sub.skip rfl (Sub.refl _)))))))) hk
     refine o_as rfl rfl ?_
     refine o_nil (q_then (c_ret ?_))
     have hr0 : (((((Sk.keyErr ss (l.getD i.toNat default)) == 0) && decide (many ≤ (Sk.est ss (l.getD i.toNat default)))) && decide ((Sk.est ss (l.getD i.toNat default)) ≤ (l.length : Int))) : Bool) = true := by
      first | rfl | exact hI.bad (by omega) hy1 hbad | (simp only [e1, beq_self_eq_true, Bool.true_and, Bool.and_eq_true, decide_eq_true_eq]; omega) | (simp [e1, e2, e3]; done)
     refine q_end0 (v := .bool ((((Sk.keyErr ss (l.getD i.toNat default)) == 0) && decide (many ≤ (Sk.est ss (l.getD i.toNat default)))) && decide ((Sk.est ss (l.getD i.toNat default)) ≤ (l.length : Int)))) (rt1 rfl (r_tmp rfl)) (i := 2) rfl ?_
     exact (by have hcc := congrArg (fun (y0 : Bool) => (.bool y0 : Value)) hr0; exact hcc)
end Go.Proofs.Ytnmbkopnopaigaa
