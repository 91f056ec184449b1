/- The walks, printed by a program from the translation and a specification. -/
import Derived.Test.YthecfjipaepcgaaTaF
import Derived.Test.YthecfjipaepcgaaTaLaw
import Derived.Test.YthecfjipaepcgaaTaW6
import Derived.Test.YthecfjipaepcgaaTaW8
import Derived.Test.YthecfjipaepcgaaTaLaw4
namespace Go.Proofs.Ythecfjipaepcgaa
open Go.Sx Go.RowKit
set_option maxHeartbeats 8000000 in
set_option maxRecDepth 100000 in
theorem tableOrder_ok (tt : List DSlot) (att : Option Addr) (ctt : Nat) (a : ByteArray) (b : ByteArray) (x : Int) (y : Int) : Fn0 Try.prog 5 [.slice att tt.length ctt, .string a, .string b, Vi x, Vi y] (fun w => Rd tSlot w att ctt tt) (.bool true) := by
 refine fn0 (nt := 125) (F0 := [(0, .slice att tt.length ctt), (1, .string a), (2, .string b), (3, Vi x), (4, Vi y)]) Try.func5 rfl Try.ntmps5 rfl rfl (fun w0 hpre => ?_)
 have htt := hpre
 have hlhtt := htt.2.1
 refine c_seq (c_region ?_)
 refine o_as rfl rfl ?_
 refine o_nil (q_then (c_seq (c_region ?_)))
 refine o_mv rfl rfl ?_
 refine o_mv rfl rfl ?_
 refine o_mv rfl rfl ?_
 refine o_callM rfl (tPut_ok tt att ctt a x) hf16 (fun w hw => (rd_base (i := 0) rfl htt) w hw) rfl (fun _ _ _ _ ha hA => SlO.agree ha hA) ?_
 rintro ⟨a3, c4⟩ S1
 refine o_know (fun w hw => own_len (i := 0) (T := tSlot) hw rfl) (fun hlr5 => ?_)
 refine o_mv rfl rfl ?_
 refine o_ex rfl rfl rfl ?_
 refine o_ex rfl rfl rfl ?_
 refine o_as rfl rfl ?_
 refine o_as rfl rfl ?_
 refine o_nil (q_then (c_seq (c_region ?_)))
 refine o_mv rfl rfl ?_
 refine o_mv rfl rfl ?_
 refine o_mv rfl rfl ?_
 refine o_callM rfl (tPut_ok tt att ctt b y) hf16 (fun w hw => (rd_base (i := 1) rfl htt) w hw) rfl (fun _ _ _ _ ha hA => SlO.agree ha hA) ?_
 rintro ⟨a8, c9⟩ S6
 refine o_know (fun w hw => own_len (i := 0) (T := tSlot) hw rfl) (fun hlr10 => ?_)
 refine o_mv rfl rfl ?_
 refine o_ex rfl rfl rfl ?_
 refine o_ex rfl rfl rfl ?_
 refine o_as rfl rfl ?_
 refine o_as rfl rfl ?_
 refine o_nil (q_then (c_seq (c_seq (c_region ?_))))
 refine o_call0 (v := .bool true) rfl (tableBegun_ok ) hf24 (fun _ _ => trivial) rfl ?_
 refine o_p (p_not (b := true) rfl) ?_
 refine o_nil (q_then ?_)
 refine c_false rfl ?_
 refine c_skip (q_then (c_seq (c_seq (c_region ?_))))
 refine o_mv rfl rfl ?_
 refine o_p (p_ne rfl rfl) ?_
 refine o_mv rfl rfl ?_
 refine o_or (p := 46) 3 ((Tab.putErr tt b y) != 0) ?_ ?_ ?_
 ·intro hb11 hk
  simp only [bne_eq_false_iff_eq] at hb11
  refine o_unguard 43 rfl rfl ?_
  refine o_mv rfl rfl ?_
  refine o_unguard 43 rfl rfl ?_
  refine o_p (p_ne rfl rfl) ?_
  refine o_pf rfl rfl rfl ?_
  exact o_sub (sr (Sub.skip rfl (Sub.skip rfl (Sub.skip rfl (Sub.skip rfl (Sub.refl _)))))) hk
 ·intro hb11 hk
  refine o_guard_no rfl 43 rfl rfl rfl rfl rfl ?_
  refine o_guard_no rfl 43 rfl rfl rfl rfl rfl ?_
  refine o_pt rfl rfl rfl ?_
  exact o_sub (sr (Sub.skip rfl (Sub.skip rfl (Sub.skip rfl (Sub.skip rfl (Sub.refl _)))))) hk
 refine o_mv rfl rfl ?_
 refine o_or (p := 51) 4 (decide (a = b)) ?_ ?_ ?_
 ·intro hb12 hk
  simp only [Bool.or_eq_false_iff, bne_eq_false_iff_eq] at hb12
  refine o_unguard 47 rfl rfl ?_
  refine o_mv rfl rfl ?_
  refine o_unguard 47 rfl rfl ?_
  refine o_mv rfl rfl ?_
  refine o_unguard 47 rfl rfl ?_
  refine o_p (p_eqStr (s := a) (t := b) rfl rfl) ?_
  refine o_pf rfl rfl rfl ?_
  exact o_sub (sr (Sub.skip rfl (Sub.skip rfl (Sub.skip rfl (Sub.skip rfl (Sub.skip rfl (Sub.refl _))))))) hk
 ·intro hb12 hk
  refine o_guard_no rfl 47 rfl rfl rfl rfl rfl ?_
  refine o_guard_no rfl 47 rfl rfl rfl rfl rfl ?_
  refine o_guard_no rfl 47 rfl rfl rfl rfl rfl ?_
  refine o_pt rfl rfl rfl ?_
  exact o_sub (sr (Sub.skip rfl (Sub.skip rfl (Sub.skip rfl (Sub.skip rfl (Sub.skip rfl (Sub.refl _))))))) hk
 refine o_nil (q_then ?_)
 refine c_cond rfl (fun hc13 => ?_) (fun hc13 => ?_)
 ·simp only [Bool.or_eq_true, bne_iff_ne, ne_eq, decide_eq_true_eq] at hc13
  have hq0 := hc13
  refine c_seq (c_region ?_)
  refine o_as rfl rfl ?_
  refine o_nil (q_then (c_ret ?_))
  refine q_then_ret ?_
  refine q_end0 (v := .bool true) (rt1 rfl (r_tmp rfl)) (i := 2) rfl ?_
  exact rfl
 ·simp only [Bool.or_eq_false_iff, bne_eq_false_iff_eq, decide_eq_false_iff_not] at hc13
  obtain ⟨⟨e1, e2⟩, hne⟩ : (Tab.putErr tt a x = 0 ∧ Tab.putErr tt b y = 0) ∧ ¬ a = b := by simpa [and_assoc] using hc13
  have hord := Tab.order_law e1 e2 hne
  refine c_skip (q_then (c_seq (c_region ?_)))
  refine o_mv rfl rfl ?_
  refine o_mv rfl rfl ?_
  refine o_mv rfl rfl ?_
  refine o_callM rfl (tPut_ok (Tab.putR tt a x) a3 c4 b y) hf16 (fun w hw => (rd_own (i := 1) rfl) w hw) rfl (fun _ _ _ _ ha hA => SlO.agree ha hA) ?_
  rintro ⟨a16, c17⟩ S14
  refine o_know (fun w hw => own_len (i := 0) (T := tSlot) hw rfl) (fun hlr18 => ?_)
  refine o_mv rfl rfl ?_
  refine o_ex rfl rfl rfl ?_
  refine o_ex rfl rfl rfl ?_
  refine o_as rfl rfl ?_
  refine o_as rfl rfl ?_
  refine o_nil (q_then (c_seq (c_region ?_)))
  refine o_mv rfl rfl ?_
  refine o_mv rfl rfl ?_
  refine o_mv rfl rfl ?_
  refine o_callM rfl (tPut_ok (Tab.putR tt b y) a8 c9 a x) hf16 (fun w hw => (rd_own (i := 1) rfl) w hw) rfl (fun _ _ _ _ ha hA => SlO.agree ha hA) ?_
  rintro ⟨a21, c22⟩ S19
  refine o_know (fun w hw => own_len (i := 0) (T := tSlot) hw rfl) (fun hlr23 => ?_)
  refine o_mv rfl rfl ?_
  refine o_ex rfl rfl rfl ?_
  refine o_ex rfl rfl rfl ?_
  refine o_as rfl rfl ?_
  refine o_as rfl rfl ?_
  refine o_nil (q_then (c_seq (c_seq (c_region ?_))))
  refine o_mv rfl rfl ?_
  refine o_p (p_ne rfl rfl) ?_
  refine o_mv rfl rfl ?_
  refine o_or (p := 71) 3 ((Tab.putErr (Tab.putR tt b y) a x) != 0) ?_ ?_ ?_
  ·intro hb24 hk
   simp only [bne_eq_false_iff_eq] at hb24
   refine o_unguard 68 rfl rfl ?_
   refine o_mv rfl rfl ?_
   refine o_unguard 68 rfl rfl ?_
   refine o_p (p_ne rfl rfl) ?_
   refine o_pf rfl rfl rfl ?_
   exact o_sub (sr (Sub.skip rfl (Sub.skip rfl (Sub.skip rfl (Sub.skip rfl (Sub.refl _)))))) hk
  ·intro hb24 hk
   refine o_guard_no rfl 68 rfl rfl rfl rfl rfl ?_
   refine o_guard_no rfl 68 rfl rfl rfl rfl rfl ?_
   refine o_pt rfl rfl rfl ?_
   exact o_sub (sr (Sub.skip rfl (Sub.skip rfl (Sub.skip rfl (Sub.skip rfl (Sub.refl _)))))) hk
  refine o_nil (q_then ?_)
  refine c_cond rfl (fun hc25 => ?_) (fun hc25 => ?_)
  ·simp only [Bool.or_eq_true, bne_iff_ne, ne_eq] at hc25
   have hbad := hc25
   refine c_seq (c_region ?_)
   refine o_mv rfl rfl ?_
   refine o_mv rfl rfl ?_
   refine o_p (p_eq rfl rfl) ?_
   refine o_mv rfl rfl ?_
   refine o_and (p := 78) 3 ((Tab.putErr (Tab.putR tt a x) b y) == 8) ?_ ?_ ?_
   ·intro hb26 hk
    simp only [beq_iff_eq] at hb26
    refine o_unguard 75 rfl rfl ?_
    refine o_mv rfl rfl ?_
    refine o_unguard 75 rfl rfl ?_
    refine o_p (p_eq rfl rfl) ?_
    refine o_pt rfl rfl rfl ?_
    exact o_sub (sr (Sub.skip rfl (Sub.skip rfl (Sub.skip rfl (Sub.skip rfl (Sub.refl _)))))) hk
   ·intro hb26 hk
    refine o_guard_no rfl 75 rfl rfl rfl rfl rfl ?_
    refine o_guard_no rfl 75 rfl rfl rfl rfl rfl ?_
    refine o_pf rfl rfl rfl ?_
    exact o_sub (sr (Sub.skip rfl (Sub.skip rfl (Sub.skip rfl (Sub.skip rfl (Sub.refl _)))))) hk
   refine o_as rfl rfl ?_
   refine o_nil (q_then (c_ret ?_))
   refine q_then_ret ?_
   have hr0 : ((((Tab.putErr (Tab.putR tt a x) b y) == (Tab.putErr (Tab.putR tt b y) a x)) && ((Tab.putErr (Tab.putR tt a x) b y) == 8)) : Bool) = true := by
    first | rfl | exact hord.bad (by simpa using hbad) | (have h9 := Tab.undo_law e1 hna; rw [h9.1, h9.2]; simp)
   refine q_end0 (v := .bool (((Tab.putErr (Tab.putR tt a x) b y) == (Tab.putErr (Tab.putR tt b y) a x)) && ((Tab.putErr (Tab.putR tt a x) b y) == 8))) (rt1 rfl (r_tmp rfl)) (i := 4) rfl ?_
   exact (by have hcc := congrArg (fun (y0 : Bool) => (.bool y0 : Value)) hr0; exact hcc)
  ·simp only [Bool.or_eq_false_iff, bne_eq_false_iff_eq] at hc25
   obtain ⟨e3, e4⟩ := hc25
   have hv := hord.good e3 e4
   refine c_skip (q_then (c_seq (c_seq (c_region ?_))))
   refine o_as rfl rfl ?_
   refine o_nil (q_then (c_block ?_))
   refine c_loop (St := Nat)
    (fun i => [(0, .slice att tt.length ctt), (1, .string a), (11, .slice a3 (Tab.putR tt a x).length c4), (15, .slice a16 (Tab.putR (Tab.putR tt a x) b y).length c17), (17, .slice a21 (Tab.putR (Tab.putR tt b y) a x).length c22), (19, Vi (i : Int))])
    (fun i => [own tSlot S19 a21 c22 (Tab.putR (Tab.putR tt b y) a x), own tSlot S14 a16 c17 (Tab.putR (Tab.putR tt a x) b y), own tSlot S6 a8 c9 (Tab.putR tt b y), own tSlot S1 a3 c4 (Tab.putR tt a x), base w0])
    (fun i => i ≤ (Tab.putR (Tab.putR tt a x) b y).length)
    (fun i => (Tab.putR (Tab.putR tt a x) b y).length - i)
    0 ?_ (sr (sr (sr (sr (sr (sr (Sub.nil _))))))) (fun _ hw => hw) ?_
   ·exact Nat.zero_le _
   rintro i hI K hK27
   show SC _ _ Try.prog 125 w0 _ _ [(0, .slice att tt.length ctt), (1, .string a), (11, .slice a3 (Tab.putR tt a x).length c4), (15, .slice a16 (Tab.putR (Tab.putR tt a x) b y).length c17), (17, .slice a21 (Tab.putR (Tab.putR tt b y) a x).length c22), (19, Vi (i : Int))] [own tSlot S19 a21 c22 (Tab.putR (Tab.putR tt b y) a x), own tSlot S14 a16 c17 (Tab.putR (Tab.putR tt a x) b y), own tSlot S6 a8 c9 (Tab.putR tt b y), own tSlot S1 a3 c4 (Tab.putR tt a x), base w0]
   refine c_seq (c_seq (c_region ?_))
   refine o_mv rfl rfl ?_
   refine o_mv rfl rfl ?_
   refine o_p (p_len_slice rfl rfl Try.underlying22) ?_
   refine o_p (p_lt rfl rfl) ?_
   refine o_nil (q_then ?_)
   refine c_cond rfl (fun hc28 => ?_) (fun hc28 => ?_)
   ·simp only [decide_eq_true_eq] at hc28
    refine c_skip (q_then (c_seq (c_block (c_seq ?_))))
    refine c_draw hmix (by kernel_rfl) ?_
    refine w_mv rfl rfl ?_
    refine w_p (p_len_slice rfl rfl Try.underlying22) ?_
    refine w_mv rfl rfl ?_
    refine w_p (p_len_slice rfl rfl Try.underlying22) ?_
    refine w_p (p_ne rfl rfl) ?_
    refine w_mv rfl rfl ?_
    refine w_or (p := 102) 12 (((Tab.putR (Tab.putR tt a x) b y).getD i default).used != ((Tab.putR (Tab.putR tt b y) a x).getD i default).used) ?_ ?_ ?_
    ·intro hb29 hk
     simp only [bne_eq_false_iff_eq] at hb29
     refine w_unguard 90 rfl rfl ?_
     refine w_mv rfl rfl ?_
     refine w_unguard 90 rfl rfl ?_
     refine w_mv rfl rfl ?_
     refine w_unguard 90 rfl rfl ?_
     refine w_p (p_indexAddr (L := (Tab.putR (Tab.putR tt a x) b y)) (T := tSlot) (i := (i : Int)) rfl rfl (rd_own (i := 1) rfl) Try.underlying22 sz33 (by omega) (by omega)) ?_
     refine w_unguard 90 rfl rfl ?_
     refine w_p (p_fieldAddrE rfl fo33_0) ?_
     refine w_unguard 90 rfl rfl ?_
     refine w_p (p_loadF (i := i) (j := 0) (T := tSlot) (L := (Tab.putR (Tab.putR tt a x) b y)) (v := .bool (((Tab.putR (Tab.putR tt a x) b y).getD i default).used)) rfl (rd_own (i := 1) rfl) (by first | assumption | omega) sh4 (congrArg (fun z => (tSlot.enc z)[0]?) (getd_at (by first | assumption | omega) default))) ?_
     refine w_unguard 90 rfl rfl ?_
     refine w_mv rfl rfl ?_
     refine w_unguard 90 rfl rfl ?_
     refine w_mv rfl rfl ?_
     refine w_unguard 90 rfl rfl ?_
     refine w_p (p_indexAddr (L := (Tab.putR (Tab.putR tt b y) a x)) (T := tSlot) (i := (i : Int)) rfl rfl (rd_own (i := 0) rfl) Try.underlying22 sz33 (by omega) (by omega)) ?_
     refine w_unguard 90 rfl rfl ?_
     refine w_p (p_fieldAddrE rfl fo33_0) ?_
     refine w_unguard 90 rfl rfl ?_
     refine w_p (p_loadF (i := i) (j := 0) (T := tSlot) (L := (Tab.putR (Tab.putR tt b y) a x)) (v := .bool (((Tab.putR (Tab.putR tt b y) a x).getD i default).used)) rfl (rd_own (i := 0) rfl) (by first | assumption | omega) sh4 (congrArg (fun z => (tSlot.enc z)[0]?) (getd_at (by first | assumption | omega) default))) ?_
     refine w_unguard 90 rfl rfl ?_
     refine w_p (p_neBool (b := ((Tab.putR (Tab.putR tt a x) b y).getD i default).used) (c := ((Tab.putR (Tab.putR tt b y) a x).getD i default).used) rfl rfl Try.underlying4) ?_
     refine w_pf rfl rfl rfl ?_
     exact w_sub (sr (Sub.skip rfl (Sub.skip rfl (Sub.skip rfl (Sub.skip rfl (Sub.skip rfl (Sub.skip rfl (Sub.skip rfl (Sub.skip rfl (Sub.skip rfl (Sub.skip rfl (Sub.skip rfl (Sub.skip rfl (Sub.skip rfl (Sub.refl _))))))))))))))) hk
    ·intro hb29 hk
     refine w_guard_no rfl 90 rfl rfl rfl rfl rfl ?_
     refine w_guard_no rfl 90 rfl rfl rfl rfl rfl ?_
     refine w_guard_no rfl 90 rfl rfl rfl rfl rfl ?_
     refine w_guard_no rfl 90 rfl rfl rfl rfl rfl ?_
     refine w_guard_no rfl 90 rfl rfl rfl rfl rfl ?_
     refine w_guard_no rfl 90 rfl rfl rfl rfl rfl ?_
     refine w_guard_no rfl 90 rfl rfl rfl rfl rfl ?_
     refine w_guard_no rfl 90 rfl rfl rfl rfl rfl ?_
     refine w_guard_no rfl 90 rfl rfl rfl rfl rfl ?_
     refine w_guard_no rfl 90 rfl rfl rfl rfl rfl ?_
     refine w_guard_no rfl 90 rfl rfl rfl rfl rfl ?_
     refine w_pt rfl rfl rfl ?_
     exact w_sub (sr (Sub.skip rfl (Sub.skip rfl (Sub.skip rfl (Sub.skip rfl (Sub.skip rfl (Sub.skip rfl (Sub.skip rfl (Sub.skip rfl (Sub.skip rfl (Sub.skip rfl (Sub.skip rfl (Sub.skip rfl (Sub.skip rfl (Sub.refl _))))))))))))))) hk
    refine w_nil (q_then ?_)
    refine c_cond rfl (fun hc30 => ?_) (fun hc30 => ?_)
    ·simp only [Bool.or_eq_true, bne_iff_ne, ne_eq] at hc30
     exfalso; have hq := hc30; have h9 := hv.2 i (by omega); have h8 := hv.1; first | omega | (rcases hq with q | q <;> first | omega | exact q h9 | (simp_all; done))
    ·simp only [Bool.or_eq_false_iff, bne_eq_false_iff_eq] at hc30
     refine c_skip ?_
     refine q_block_normal (q_then ?_)
     refine c_region ?_
     refine o_mv rfl rfl ?_
     refine o_p (p_addb rfl rfl (by omega)) ?_
     refine o_as rfl rfl ?_
     refine o_nil ?_
     refine q_round hK27 (i + 1) ?_ ?_ ?_ ?_
     ·clear hK27
      (try dsimp only); omega
     ·(try dsimp only); omega
     ·exact sr (sr (sr (sr (sr (sr (Sub.nil _))))))
     ·exact pk [0, 1, 2, 3, 4]
   ·simp only [decide_eq_false_iff_not, Int.not_lt] at hc28
    refine c_exit ?_
    refine q_then_exit (q_then_exit (q_block_exit (q_then ?_)))
    refine c_seq (c_seq (c_region ?_))
    refine o_mv rfl rfl ?_
    refine o_mv rfl rfl ?_
    refine o_call0 (v := .tuple #[Vi (Tab.has tt a), Vi (Tab.looked tt a), Vi (Tab.keyErr tt a)]) rfl (tget_ok tt att ctt a) hf15 (fun w hw => (rd_base (i := 4) rfl htt) w hw) rfl ?_
    refine o_mv rfl rfl ?_
    refine o_ex rfl rfl rfl ?_
    refine o_ex rfl rfl rfl ?_
    refine o_ex rfl rfl rfl ?_
    refine o_as rfl rfl ?_
    refine o_as rfl rfl ?_
    refine o_as rfl rfl ?_
    refine o_nil (q_then (c_seq (c_region ?_)))
    refine o_mv rfl rfl ?_
    refine o_p (p_ne rfl rfl) ?_
    refine o_nil (q_then ?_)
    refine c_cond rfl (fun hc31 => ?_) (fun hc31 => ?_)
    ·simp only [bne_iff_ne, ne_eq] at hc31
     refine c_seq (c_region ?_)
     refine o_as rfl rfl ?_
     refine o_nil (q_then (c_ret ?_))
     refine q_then_ret ?_
     refine q_end0 (v := .bool true) (rt1 rfl (r_tmp rfl)) (i := 4) rfl ?_
     exact rfl
    ·simp only [bne_eq_false_iff_eq] at hc31
     have hna := hc31
     refine c_skip (q_then (c_seq (c_region ?_)))
     refine o_mv rfl rfl ?_
     refine o_mv rfl rfl ?_
     refine o_callM rfl (tdelete_ok (Tab.putR tt a x) a3 c4 a) hf17 (fun w hw => (rd_own (i := 3) rfl) w hw) rfl (fun _ _ _ _ ha hA => SlO.agree ha hA) ?_
     rintro ⟨a34, c35⟩ S32
     refine o_know (fun w hw => own_len (i := 0) (T := tSlot) hw rfl) (fun hlr36 => ?_)
     refine o_mv rfl rfl ?_
     refine o_ex rfl rfl rfl ?_
     refine o_ex rfl rfl rfl ?_
     refine o_as rfl rfl ?_
     refine o_as rfl rfl ?_
     refine o_nil (q_then (c_seq (c_region ?_)))
     refine o_mv rfl rfl ?_
     refine o_p (p_eq rfl rfl) ?_
     refine o_mv rfl rfl ?_
     refine o_and (p := 124) 4 (decide ((Tab.delR (Tab.putR tt a x) a) = tt)) ?_ ?_ ?_
     ·intro hb37 hk
      simp only [beq_iff_eq] at hb37
      refine o_unguard 120 rfl rfl ?_
      refine o_mv rfl rfl ?_
      refine o_unguard 120 rfl rfl ?_
      refine o_mv rfl rfl ?_
      refine o_unguard 120 rfl rfl ?_
      refine o_call0 (v := .bool (decide ((Tab.delR (Tab.putR tt a x) a) = tt))) rfl (sameSlots_ok (Tab.delR (Tab.putR tt a x) a) a34 c35 tt att ctt) hf26 (fun w hw => ⟨(rd_own (i := 0) rfl) w hw, (rd_base (i := 5) rfl htt) w hw⟩) rfl ?_
      refine o_pt rfl rfl rfl ?_
      exact o_sub (sr (Sub.skip rfl (Sub.skip rfl (Sub.skip rfl (Sub.skip rfl (Sub.skip rfl (Sub.refl _))))))) hk
     ·intro hb37 hk
      refine o_guard_no rfl 120 rfl rfl rfl rfl rfl ?_
      refine o_guard_no rfl 120 rfl rfl rfl rfl rfl ?_
      refine o_guard_no rfl 120 rfl rfl rfl rfl rfl ?_
      refine o_pf rfl rfl rfl ?_
      exact o_sub (sr (Sub.skip rfl (Sub.skip rfl (Sub.skip rfl (Sub.skip rfl (Sub.skip rfl (Sub.refl _))))))) hk
     refine o_as rfl rfl ?_
     refine o_nil (q_then (c_ret ?_))
     have hr0 : ((((Tab.keyErr (Tab.putR tt a x) a) == 0) && (decide ((Tab.delR (Tab.putR tt a x) a) = tt))) : Bool) = true := by
      first | rfl | exact hord.bad (by simpa using hbad) | (have h9 := Tab.undo_law e1 hna; rw [h9.1, h9.2]; simp)
     refine q_end0 (v := .bool (((Tab.keyErr (Tab.putR tt a x) a) == 0) && (decide ((Tab.delR (Tab.putR tt a x) a) = tt)))) (rt1 rfl (r_tmp rfl)) (i := 5) rfl ?_
     exact (by have hcc := congrArg (fun (y0 : Bool) => (.bool y0 : Value)) hr0; exact hcc)
end Go.Proofs.Ythecfjipaepcgaa
