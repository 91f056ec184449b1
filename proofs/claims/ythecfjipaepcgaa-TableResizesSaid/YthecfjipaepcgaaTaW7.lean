/- The walks, printed by a program from the translation and a specification. -/
import Derived.Test.YthecfjipaepcgaaTaF
import Derived.Test.YthecfjipaepcgaaTaLaw
import Derived.Test.YthecfjipaepcgaaTaW6
import Derived.Test.YthecfjipaepcgaaTaLaw3
namespace Go.Proofs.Ythecfjipaepcgaa
open Go.Sx Go.RowKit
set_option maxHeartbeats 8000000 in
set_option maxRecDepth 100000 in
theorem tableResizes_ok (tt : List DSlot) (att : Option Addr) (ctt : Nat) (slots : Int) (key : ByteArray) : Fn0 Try.prog 4 [.slice att tt.length ctt, Vi slots, .string key] (fun w => Rd tSlot w att ctt tt) (.bool true) := by
 refine fn0 (nt := 96) (F0 := [(0, .slice att tt.length ctt), (1, Vi slots), (2, .string key)]) Try.func4 rfl Try.ntmps4 rfl rfl (fun w0 hpre => ?_)
 have htt := hpre
 have hlhtt := htt.2.1
 refine c_seq (c_region ?_)
 refine o_as rfl rfl ?_
 refine o_nil (q_then (c_seq (c_region ?_)))
 refine o_mv rfl rfl ?_
 refine o_mv rfl rfl ?_
 refine o_callM rfl (tresize_ok tt att ctt slots) hf18 (fun w hw => (rd_base (i := 0) rfl htt) w hw) rfl (fun _ _ _ _ ha hA => SlO.agree ha hA) ?_
 rintro ⟨a3, c4⟩ S1
 refine o_know (fun w hw => own_len (i := 0) (T := tSlot) hw rfl) (fun hlr5 => ?_)
 refine o_mv rfl rfl ?_
 refine o_ex rfl rfl rfl ?_
 refine o_ex rfl rfl rfl ?_
 refine o_as rfl rfl ?_
 refine o_as rfl rfl ?_
 refine o_nil (q_then (c_seq (c_seq (c_region ?_))))
 refine o_call0 (v := .bool true) rfl (tableBegun_ok ) hf24 (fun _ _ => trivial) rfl ?_
 refine o_p (p_not (b := true) rfl) ?_
 refine o_nil (q_then ?_)
 refine c_false rfl ?_
 refine c_skip (q_then (c_seq (c_seq (c_region ?_))))
 refine o_mv rfl rfl ?_
 refine o_p (p_ne rfl rfl) ?_
 refine o_nil (q_then ?_)
 refine c_cond rfl (fun hc6 => ?_) (fun hc6 => ?_)
 ·simp only [bne_iff_ne, ne_eq] at hc6
  have hbad := hc6
  refine c_seq (c_region ?_)
  refine o_mv rfl rfl ?_
  refine o_p (p_len_slice rfl rfl Try.underlying22) ?_
  refine o_p (p_eq rfl rfl) ?_
  refine o_as rfl rfl ?_
  refine o_nil (q_then (c_ret ?_))
  refine q_then_ret ?_
  have hr0 : ((((Tab.sizeR tt slots).length : Int) == 0) : Bool) = true := by
   first | exact Tab.resize_bad hbad | (rw [hzz.len, hzz.ck, hzz.ke, hzz.hs, hzz.cnt hU (by omega) hI.2 (by omega)]; simp)
  refine q_end0 (v := .bool (((Tab.sizeR tt slots).length : Int) == 0)) (rt1 rfl (r_tmp rfl)) (i := 1) rfl ?_
  exact (by have hcc := congrArg (fun (y0 : Bool) => (.bool y0 : Value)) hr0; exact hcc)
 ·simp only [bne_eq_false_iff_eq] at hc6
  have hse := hc6
  have hzz := Tab.resize_law hc6 key
  refine c_skip (q_then (c_seq (c_region ?_)))
  refine o_mv rfl rfl ?_
  refine o_mv rfl rfl ?_
  refine o_call0 (v := .tuple #[Vi (Tab.has tt key), Vi (Tab.looked tt key), Vi (Tab.keyErr tt key)]) rfl (tget_ok tt att ctt key) hf15 (fun w hw => (rd_base (i := 1) rfl htt) w hw) rfl ?_
  refine o_mv rfl rfl ?_
  refine o_ex rfl rfl rfl ?_
  refine o_ex rfl rfl rfl ?_
  refine o_ex rfl rfl rfl ?_
  refine o_as rfl rfl ?_
  refine o_as rfl rfl ?_
  refine o_as rfl rfl ?_
  refine o_nil (q_then (c_seq (c_region ?_)))
  refine o_mv rfl rfl ?_
  refine o_mv rfl rfl ?_
  refine o_call0 (v := .tuple #[Vi (Tab.has (Tab.sizeR tt slots) key), Vi (Tab.looked (Tab.sizeR tt slots) key), Vi (Tab.keyErr (Tab.sizeR tt slots) key)]) rfl (tget_ok (Tab.sizeR tt slots) a3 c4 key) hf15 (fun w hw => (rd_own (i := 0) rfl) w hw) rfl ?_
  refine o_mv rfl rfl ?_
  refine o_ex rfl rfl rfl ?_
  refine o_ex rfl rfl rfl ?_
  refine o_ex rfl rfl rfl ?_
  refine o_as rfl rfl ?_
  refine o_as rfl rfl ?_
  refine o_as rfl rfl ?_
  refine o_nil (q_then (c_seq (c_region ?_)))
  refine o_as rfl rfl ?_
  refine o_as rfl rfl ?_
  refine o_nil (q_then (c_seq (c_seq (c_region ?_))))
  refine o_as rfl rfl ?_
  refine o_nil (q_then (c_block ?_))
  refine c_loop (St := Int × Nat)
   (fun ⟨used, i⟩ => [(0, .slice att tt.length ctt), (1, Vi slots), (7, .slice a3 (Tab.sizeR tt slots).length c4), (9, Vi (Tab.has tt key)), (11, Vi (Tab.keyErr tt key)), (12, Vi (Tab.has (Tab.sizeR tt slots) key)), (14, Vi (Tab.keyErr (Tab.sizeR tt slots) key)), (15, Vi used), (16, Vi 0), (17, Vi (i : Int))])
   (fun ⟨used, i⟩ => [own tSlot S1 a3 c4 (Tab.sizeR tt slots), base w0])
   (fun ⟨used, i⟩ => i ≤ tt.length ∧ used = (((tt.take i).countP (·.used) : Nat) : Int))
   (fun ⟨used, i⟩ => tt.length - i)
   (0, 0) ?_ (sr (sr (sr (sr (sr (sr (sr (sr (sr (sr (Sub.nil _))))))))))) (fun _ hw => hw) ?_
  ·exact ⟨Nat.zero_le _, rfl⟩
  rintro ⟨used, i⟩ hI K hK7
  have hcl := Tab.count_le tt i
  show SC _ _ Try.prog 96 w0 _ _ [(0, .slice att tt.length ctt), (1, Vi slots), (7, .slice a3 (Tab.sizeR tt slots).length c4), (9, Vi (Tab.has tt key)), (11, Vi (Tab.keyErr tt key)), (12, Vi (Tab.has (Tab.sizeR tt slots) key)), (14, Vi (Tab.keyErr (Tab.sizeR tt slots) key)), (15, Vi used), (16, Vi 0), (17, Vi (i : Int))] [own tSlot S1 a3 c4 (Tab.sizeR tt slots), base w0]
  refine c_seq (c_seq (c_region ?_))
  refine o_mv rfl rfl ?_
  refine o_mv rfl rfl ?_
  refine o_p (p_len_slice rfl rfl Try.underlying22) ?_
  refine o_p (p_lt rfl rfl) ?_
  refine o_nil (q_then ?_)
  refine c_cond rfl (fun hc8 => ?_) (fun hc8 => ?_)
  ·simp only [decide_eq_true_eq] at hc8
   refine c_skip (q_then (c_seq (c_block (c_seq (c_region ?_)))))
   refine o_mv rfl rfl ?_
   refine o_mv rfl rfl ?_
   refine o_p (p_indexAddr (L := tt) (T := tSlot) (i := (i : Int)) rfl rfl (rd_base (i := 1) rfl htt) Try.underlying22 sz33 (by omega) (by omega)) ?_
   refine o_p (p_fieldAddrE rfl fo33_0) ?_
   refine o_p (p_loadF (i := i) (j := 0) (T := tSlot) (L := tt) (v := .bool ((tt.getD i default).used)) rfl (rd_base (i := 1) rfl htt) (by first | assumption | omega) sh4 (congrArg (fun z => (tSlot.enc z)[0]?) (getd_at (by first | assumption | omega) default))) ?_
   refine o_nil (q_then ?_)
   refine c_cond rfl (fun hc9 => ?_) (fun hc9 => ?_)
   ·skip
    have hu := hc9
    refine c_region ?_
    refine o_mv rfl rfl ?_
    refine o_p (p_addb rfl rfl (by omega)) ?_
    refine o_as rfl rfl ?_
    refine o_nil ?_
    refine q_block_normal (q_then ?_)
    refine c_region ?_
    refine o_mv rfl rfl ?_
    refine o_p (p_addb rfl rfl (by omega)) ?_
    refine o_as rfl rfl ?_
    refine o_nil ?_
    refine q_round hK7 ((used + 1), i + 1) ?_ ?_ ?_ ?_
    ·clear hK7
     first | exact ⟨by omega, Tab.count_yes hI.2 (by omega) hu⟩ | exact ⟨by omega, Tab.count_no hI.2 (by omega) hu⟩
    ·(try dsimp only); omega
    ·exact sr (sr (sr (sr (sr (sr (sr (sr (sr (sr (Sub.nil _))))))))))
    ·exact pk [0, 1]
   ·skip
    have hu := hc9
    refine c_skip ?_
    refine q_block_normal (q_then ?_)
    refine c_region ?_
    refine o_mv rfl rfl ?_
    refine o_p (p_addb rfl rfl (by omega)) ?_
    refine o_as rfl rfl ?_
    refine o_nil ?_
    refine q_round hK7 (used, i + 1) ?_ ?_ ?_ ?_
    ·clear hK7
     first | exact ⟨by omega, Tab.count_yes hI.2 (by omega) hu⟩ | exact ⟨by omega, Tab.count_no hI.2 (by omega) hu⟩
    ·(try dsimp only); omega
    ·exact sr (sr (sr (sr (sr (sr (sr (sr (sr (sr (Sub.nil _))))))))))
    ·exact pk [0, 1]
  ·simp only [decide_eq_false_iff_not, Int.not_lt] at hc8
   have hU := hI.2
   refine c_exit ?_
   refine q_then_exit (q_then_exit (q_block_exit (q_then ?_)))
   refine c_seq (c_seq (c_region ?_))
   refine o_as rfl rfl ?_
   refine o_nil (q_then (c_block ?_))
   refine c_loop (St := Int × Nat)
    (fun ⟨more, i2⟩ => [(1, Vi slots), (7, .slice a3 (Tab.sizeR tt slots).length c4), (9, Vi (Tab.has tt key)), (11, Vi (Tab.keyErr tt key)), (12, Vi (Tab.has (Tab.sizeR tt slots) key)), (14, Vi (Tab.keyErr (Tab.sizeR tt slots) key)), (15, Vi used), (16, Vi more), (18, Vi (i2 : Int))])
    (fun ⟨more, i2⟩ => [own tSlot S1 a3 c4 (Tab.sizeR tt slots), base w0])
    (fun ⟨more, i2⟩ => i2 ≤ (Tab.sizeR tt slots).length ∧ more = ((((Tab.sizeR tt slots).take i2).countP (·.used) : Nat) : Int))
    (fun ⟨more, i2⟩ => (Tab.sizeR tt slots).length - i2)
    (0, 0) ?_ (sr (sr (sr (sr (sr (sr (sr (sr (sr (Sub.nil _)))))))))) (fun _ hw => hw) ?_
   ·exact ⟨Nat.zero_le _, rfl⟩
   rintro ⟨more, i2⟩ hI K hK10
   have hcl := Tab.count_le (Tab.sizeR tt slots) i2
   have hI0 := hI
   show SC _ _ Try.prog 96 w0 _ _ [(1, Vi slots), (7, .slice a3 (Tab.sizeR tt slots).length c4), (9, Vi (Tab.has tt key)), (11, Vi (Tab.keyErr tt key)), (12, Vi (Tab.has (Tab.sizeR tt slots) key)), (14, Vi (Tab.keyErr (Tab.sizeR tt slots) key)), (15, Vi used), (16, Vi more), (18, Vi (i2 : Int))] [own tSlot S1 a3 c4 (Tab.sizeR tt slots), base w0]
   refine c_seq (c_seq (c_region ?_))
   refine o_mv rfl rfl ?_
   refine o_mv rfl rfl ?_
   refine o_p (p_len_slice rfl rfl Try.underlying22) ?_
   refine o_p (p_lt rfl rfl) ?_
   refine o_nil (q_then ?_)
   refine c_cond rfl (fun hc11 => ?_) (fun hc11 => ?_)
   ·simp only [decide_eq_true_eq] at hc11
    refine c_skip (q_then (c_seq (c_block (c_seq (c_region ?_)))))
    refine o_mv rfl rfl ?_
    refine o_mv rfl rfl ?_
    refine o_p (p_indexAddr (L := (Tab.sizeR tt slots)) (T := tSlot) (i := (i2 : Int)) rfl rfl (rd_own (i := 0) rfl) Try.underlying22 sz33 (by omega) (by omega)) ?_
    refine o_p (p_fieldAddrE rfl fo33_0) ?_
    refine o_p (p_loadF (i := i2) (j := 0) (T := tSlot) (L := (Tab.sizeR tt slots)) (v := .bool (((Tab.sizeR tt slots).getD i2 default).used)) rfl (rd_own (i := 0) rfl) (by first | assumption | omega) sh4 (congrArg (fun z => (tSlot.enc z)[0]?) (getd_at (by first | assumption | omega) default))) ?_
    refine o_nil (q_then ?_)
    refine c_cond rfl (fun hc12 => ?_) (fun hc12 => ?_)
    ·skip
     have hu := hc12
     refine c_region ?_
     refine o_mv rfl rfl ?_
     refine o_p (p_addb rfl rfl (by omega)) ?_
     refine o_as rfl rfl ?_
     refine o_nil ?_
     refine q_block_normal (q_then ?_)
     refine c_region ?_
     refine o_mv rfl rfl ?_
     refine o_p (p_addb rfl rfl (by omega)) ?_
     refine o_as rfl rfl ?_
     refine o_nil ?_
     refine q_round hK10 ((more + 1), i2 + 1) ?_ ?_ ?_ ?_
     ·clear hK10
      first | exact ⟨by omega, Tab.count_yes hI.2 (by omega) hu⟩ | exact ⟨by omega, Tab.count_no hI.2 (by omega) hu⟩
     ·(try dsimp only); omega
     ·exact sr (sr (sr (sr (sr (sr (sr (sr (sr (Sub.nil _)))))))))
     ·exact pk [0, 1]
    ·skip
     have hu := hc12
     refine c_skip ?_
     refine q_block_normal (q_then ?_)
     refine c_region ?_
     refine o_mv rfl rfl ?_
     refine o_p (p_addb rfl rfl (by omega)) ?_
     refine o_as rfl rfl ?_
     refine o_nil ?_
     refine q_round hK10 (more, i2 + 1) ?_ ?_ ?_ ?_
     ·clear hK10
      first | exact ⟨by omega, Tab.count_yes hI.2 (by omega) hu⟩ | exact ⟨by omega, Tab.count_no hI.2 (by omega) hu⟩
     ·(try dsimp only); omega
     ·exact sr (sr (sr (sr (sr (sr (sr (sr (sr (Sub.nil _)))))))))
     ·exact pk [0, 1]
   ·simp only [decide_eq_false_iff_not, Int.not_lt] at hc11
    refine c_exit ?_
    refine q_then_exit (q_then_exit (q_block_exit (q_then ?_)))
    refine c_seq (c_region ?_)
    refine o_mv rfl rfl ?_
    refine o_p (p_len_slice rfl rfl Try.underlying22) ?_
    refine o_mv rfl rfl ?_
    refine o_p (p_eq rfl rfl) ?_
    refine o_mv rfl rfl ?_
    refine o_and (p := 80) 4 ((Tab.check (Tab.sizeR tt slots)) == 0) ?_ ?_ ?_
    ·intro hb13 hk
     simp only [beq_iff_eq] at hb13
     refine o_unguard 76 rfl rfl ?_
     refine o_mv rfl rfl ?_
     refine o_unguard 76 rfl rfl ?_
     refine o_call0 (v := Vi (Tab.check (Tab.sizeR tt slots))) rfl (tcheck_ok (Tab.sizeR tt slots) a3 c4) hf25 (fun w hw => (rd_own (i := 0) rfl) w hw) rfl ?_
     refine o_unguard 76 rfl rfl ?_
     refine o_p (p_eq rfl rfl) ?_
     refine o_pt rfl rfl rfl ?_
     exact o_sub (sr (Sub.skip rfl (Sub.skip rfl (Sub.skip rfl (Sub.skip rfl (Sub.skip rfl (Sub.refl _))))))) hk
    ·intro hb13 hk
     refine o_guard_no rfl 76 rfl rfl rfl rfl rfl ?_
     refine o_guard_no rfl 76 rfl rfl rfl rfl rfl ?_
     refine o_guard_no rfl 76 rfl rfl rfl rfl rfl ?_
     refine o_pf rfl rfl rfl ?_
     exact o_sub (sr (Sub.skip rfl (Sub.skip rfl (Sub.skip rfl (Sub.skip rfl (Sub.skip rfl (Sub.refl _))))))) hk
    refine o_mv rfl rfl ?_
    refine o_and (p := 85) 4 ((Tab.keyErr tt key) == (Tab.keyErr (Tab.sizeR tt slots) key)) ?_ ?_ ?_
    ·intro hb14 hk
     simp only [Bool.and_eq_true, beq_iff_eq] at hb14
     refine o_unguard 81 rfl rfl ?_
     refine o_mv rfl rfl ?_
     refine o_unguard 81 rfl rfl ?_
     refine o_mv rfl rfl ?_
     refine o_unguard 81 rfl rfl ?_
     refine o_p (p_eq rfl rfl) ?_
     refine o_pt rfl rfl rfl ?_
     exact o_sub (sr (Sub.skip rfl (Sub.skip rfl (Sub.skip rfl (Sub.skip rfl (Sub.skip rfl (Sub.refl _))))))) hk
    ·intro hb14 hk
     refine o_guard_no rfl 81 rfl rfl rfl rfl rfl ?_
     refine o_guard_no rfl 81 rfl rfl rfl rfl rfl ?_
     refine o_guard_no rfl 81 rfl rfl rfl rfl rfl ?_
     refine o_pf rfl rfl rfl ?_
     exact o_sub (sr (Sub.skip rfl (Sub.skip rfl (Sub.skip rfl (Sub.skip rfl (Sub.skip rfl (Sub.refl _))))))) hk
    refine o_mv rfl rfl ?_
    refine o_and (p := 90) 4 ((Tab.has tt key) == (Tab.has (Tab.sizeR tt slots) key)) ?_ ?_ ?_
    ·intro hb15 hk
     simp only [Bool.and_eq_true, beq_iff_eq] at hb15
     refine o_unguard 86 rfl rfl ?_
     refine o_mv rfl rfl ?_
     refine o_unguard 86 rfl rfl ?_
     refine o_mv rfl rfl ?_
     refine o_unguard 86 rfl rfl ?_
     refine o_p (p_eq rfl rfl) ?_
     refine o_pt rfl rfl rfl ?_
     exact o_sub (sr (Sub.skip rfl (Sub.skip rfl (Sub.skip rfl (Sub.skip rfl (Sub.skip rfl (Sub.refl _))))))) hk
    ·intro hb15 hk
     refine o_guard_no rfl 86 rfl rfl rfl rfl rfl ?_
     refine o_guard_no rfl 86 rfl rfl rfl rfl rfl ?_
     refine o_guard_no rfl 86 rfl rfl rfl rfl rfl ?_
     refine o_pf rfl rfl rfl ?_
     exact o_sub (sr (Sub.skip rfl (Sub.skip rfl (Sub.skip rfl (Sub.skip rfl (Sub.skip rfl (Sub.refl _))))))) hk
    refine o_mv rfl rfl ?_
    refine o_and (p := 95) 4 (used == more) ?_ ?_ ?_
    ·intro hb16 hk
     simp only [Bool.and_eq_true, beq_iff_eq] at hb16
     refine o_unguard 91 rfl rfl ?_
     refine o_mv rfl rfl ?_
     refine o_unguard 91 rfl rfl ?_
     refine o_mv rfl rfl ?_
     refine o_unguard 91 rfl rfl ?_
     refine o_p (p_eq rfl rfl) ?_
     refine o_pt rfl rfl rfl ?_
     exact o_sub (sr (Sub.skip rfl (Sub.skip rfl (Sub.skip rfl (Sub.skip rfl (Sub.skip rfl (Sub.refl _))))))) hk
    ·intro hb16 hk
     refine o_guard_no rfl 91 rfl rfl rfl rfl rfl ?_
     refine o_guard_no rfl 91 rfl rfl rfl rfl rfl ?_
     refine o_guard_no rfl 91 rfl rfl rfl rfl rfl ?_
     refine o_pf rfl rfl rfl ?_
     exact o_sub (sr (Sub.skip rfl (Sub.skip rfl (Sub.skip rfl (Sub.skip rfl (Sub.skip rfl (Sub.refl _))))))) hk
    refine o_as rfl rfl ?_
    refine o_nil (q_then (c_ret ?_))
    have hr0 : ((((((((Tab.sizeR tt slots).length : Int) == slots) && ((Tab.check (Tab.sizeR tt slots)) == 0)) && ((Tab.keyErr tt key) == (Tab.keyErr (Tab.sizeR tt slots) key))) && ((Tab.has tt key) == (Tab.has (Tab.sizeR tt slots) key))) && (used == more)) : Bool) = true := by
     first | exact Tab.resize_bad hbad | (rw [hzz.len, hzz.ck, hzz.ke, hzz.hs, hzz.cnt hU (by omega) hI.2 (by omega)]; simp)
    refine q_end0 (v := .bool (((((((Tab.sizeR tt slots).length : Int) == slots) && ((Tab.check (Tab.sizeR tt slots)) == 0)) && ((Tab.keyErr tt key) == (Tab.keyErr (Tab.sizeR tt slots) key))) && ((Tab.has tt key) == (Tab.has (Tab.sizeR tt slots) key))) && (used == more))) (rt1 rfl (r_tmp rfl)) (i := 1) rfl ?_
    exact (by have hcc := congrArg (fun (y0 : Bool) => (.bool y0 : Value)) hr0; exact hcc)
end Go.Proofs.Ythecfjipaepcgaa
