/- The walks, printed by a program from the translation and a specification. -/
import Derived.Test.YthecfjipaepcgaaTaF
import Derived.Test.YthecfjipaepcgaaTaLaw
import Derived.Test.YthecfjipaepcgaaTaW3
namespace Go.Proofs.Ythecfjipaepcgaa
open Go.Sx Go.RowKit
set_option maxHeartbeats 8000000 in
set_option maxRecDepth 100000 in
theorem tresize_ok (tt : List DSlot) (att : Option Addr) (ctt : Nat) (slots : Int) : FnM Try.prog 18 [.slice att tt.length ctt, Vi slots] (fun w => Rd tSlot w att ctt tt) (Option Addr × Nat) (fun p => .tuple #[.slice p.1 (Tab.sizeR tt slots).length p.2, Vi (Tab.sizeErr tt slots)]) (fun p S w => SlO tSlot S w p.1 p.2 (Tab.sizeR tt slots)) := by
 refine fnM (nt := 42) (F0 := [(0, .slice att tt.length ctt), (1, Vi slots)]) Try.func18 rfl Try.ntmps18 rfl rfl (fun w0 hpre => ?_)
 have htt := hpre
 have hlhtt := htt.2.1
 refine c_seq (c_region ?_)
 refine o_as rfl rfl ?_
 refine o_as rfl rfl ?_
 refine o_nil (q_then (c_seq (c_seq (c_region ?_))))
 refine o_mv rfl rfl ?_
 refine o_call0 (v := Vi (Tab.check tt)) rfl (tcheck_ok tt att ctt) hf25 (fun w hw => (rd_base (i := 0) rfl htt) w hw) rfl ?_
 refine o_as rfl rfl ?_
 refine o_nil (q_then (c_seq (c_region ?_)))
 refine o_mv rfl rfl ?_
 refine o_p (p_ne rfl rfl) ?_
 refine o_nil (q_then ?_)
 refine c_cond rfl (fun hc1 => ?_) (fun hc1 => ?_)
 ·simp only [bne_iff_ne, ne_eq] at hc1
  refine c_seq (c_region ?_)
  refine o_mv rfl rfl ?_
  refine o_as rfl rfl ?_
  refine o_as rfl rfl ?_
  refine o_nil (q_then (c_ret ?_))
  refine q_then_ret ?_
  obtain ⟨c1, c2⟩ : _ ∧ _ := by first | exact Tab.z1 (t := tt) (n := slots) (by assumption) | exact Tab.z2 (t := tt) (n := slots) hck (by omega) | exact hI.bad hck (by omega) (by omega) ⟨by assumption, by simpa using hpt⟩ | exact hI.done hck (by omega) (by omega)
  have hr0 : ([] : List DSlot) = (Tab.sizeR tt slots) := by
   first | exact c1.symm | exact c2.symm
  have hr1 : ((Tab.check tt) : Int) = (Tab.sizeErr tt slots) := by
   first | exact c1.symm | exact c2.symm
  refine q_endM (p := (none, 0)) (fun _ => False) (rt2 rfl (r_tmp rfl) (r_tmp rfl)) (i := 0) rfl ?_ ?_ ?_
  ·exact (by have hcc := congr (congrArg (fun (y0 : List DSlot) (y1 : Int) => (.tuple #[.slice none y0.length 0, .int .i64 y1] : Value)) hr0) hr1; exact hcc)
  ·intro w hw b hb; exact hb.elim
  ·intro w hw; exact Eq.mp (congrArg (fun y => SlO tSlot _ w none 0 y) hr0) (SlO.nil tSlot w)
 ·simp only [bne_eq_false_iff_eq] at hc1
  have hck := hc1
  have hln := Tab.ck_len hc1
  refine c_skip (q_then (c_seq (c_seq (c_region ?_))))
  refine o_mv rfl rfl ?_
  refine o_p (p_lt rfl rfl) ?_
  refine o_mv rfl rfl ?_
  refine o_or (p := 20) 3 (decide (64 < slots)) ?_ ?_ ?_
  ·intro hb2 hk
   simp only [decide_eq_false_iff_not, Int.not_lt] at hb2
   refine o_unguard 17 rfl rfl ?_
   refine o_mv rfl rfl ?_
   refine o_unguard 17 rfl rfl ?_
   refine o_p (p_gt rfl rfl) ?_
   refine o_pf rfl rfl rfl ?_
   exact o_sub (sr (Sub.skip rfl (Sub.skip rfl (Sub.skip rfl (Sub.skip rfl (Sub.refl _)))))) hk
  ·intro hb2 hk
   refine o_guard_no rfl 17 rfl rfl rfl rfl rfl ?_
   refine o_guard_no rfl 17 rfl rfl rfl rfl rfl ?_
   refine o_pt rfl rfl rfl ?_
   exact o_sub (sr (Sub.skip rfl (Sub.skip rfl (Sub.skip rfl (Sub.skip rfl (Sub.refl _)))))) hk
  refine o_nil (q_then ?_)
  refine c_cond rfl (fun hc3 => ?_) (fun hc3 => ?_)
  ·simp only [Bool.or_eq_true, decide_eq_true_eq] at hc3
   refine c_seq (c_region ?_)
   refine o_as rfl rfl ?_
   refine o_as rfl rfl ?_
   refine o_nil (q_then (c_ret ?_))
   refine q_then_ret ?_
   obtain ⟨c1, c2⟩ : _ ∧ _ := by first | exact Tab.z1 (t := tt) (n := slots) (by assumption) | exact Tab.z2 (t := tt) (n := slots) hck (by omega) | exact hI.bad hck (by omega) (by omega) ⟨by assumption, by simpa using hpt⟩ | exact hI.done hck (by omega) (by omega)
   have hr0 : ([] : List DSlot) = (Tab.sizeR tt slots) := by
    first | exact c1.symm | exact c2.symm
   have hr1 : (3 : Int) = (Tab.sizeErr tt slots) := by
    first | exact c1.symm | exact c2.symm
   refine q_endM (p := (none, 0)) (fun _ => False) (rt2 rfl (r_tmp rfl) (r_tmp rfl)) (i := 0) rfl ?_ ?_ ?_
   ·exact (by have hcc := congr (congrArg (fun (y0 : List DSlot) (y1 : Int) => (.tuple #[.slice none y0.length 0, .int .i64 y1] : Value)) hr0) hr1; exact hcc)
   ·intro w hw b hb; exact hb.elim
   ·intro w hw; exact Eq.mp (congrArg (fun y => SlO tSlot _ w none 0 y) hr0) (SlO.nil tSlot w)
  ·simp only [Bool.or_eq_false_iff, decide_eq_false_iff_not, Int.not_lt] at hc3
   refine c_skip (q_then (c_seq (c_region ?_)))
   refine o_mv rfl rfl ?_
   refine o_makeSlice (T := tSlot) (m := slots) (z := (⟨false, ByteArray.empty, 0⟩ : DSlot)) rfl rfl Try.underlying22 el33 ze33 rfl (by decide) (by omega) (by omega) rfl (fun S5 a4 => ?_)
   refine o_as rfl rfl ?_
   refine o_nil (q_then (c_seq (c_seq (c_region ?_))))
   refine o_mv rfl rfl ?_
   refine o_p (p_len_slice rfl rfl Try.underlying22) ?_
   refine o_mv rfl rfl ?_
   refine o_nil (q_then (c_block ?_))
   refine c_loop (St := Nat × List DSlot)
    (fun ⟨k, ls⟩ => [(7, .slice a4 ls.length slots.toNat), (23, .slice att tt.length ctt), (24, Vi (tt.length : Int)), (25, Vi (k : Int))])
    (fun ⟨k, ls⟩ => [own tSlot S5 a4 slots.toNat ls, base w0])
    (fun ⟨k, ls⟩ => Tab.ZI tt slots ls k)
    (fun ⟨k, ls⟩ => tt.length - k)
    (0, (List.replicate slots.toNat (⟨false, ByteArray.empty, 0⟩ : DSlot))) ?_ (sr (sr (sr (sr (Sub.nil _))))) (fun _ hw => hw) ?_
   ·exact Tab.ZI.start tt slots
   rintro ⟨k, ls⟩ hI K hK7
   have hll := hI.len
   have hle := hI.le
   show SC _ _ Try.prog 42 w0 _ _ [(7, .slice a4 ls.length slots.toNat), (23, .slice att tt.length ctt), (24, Vi (tt.length : Int)), (25, Vi (k : Int))] [own tSlot S5 a4 slots.toNat ls, base w0]
   refine c_seq (c_region ?_)
   refine o_p (p_lt rfl rfl) ?_
   refine o_nil (q_then (c_seq ?_))
   refine c_cond rfl (fun hc8 => ?_) (fun hc8 => ?_)
   ·simp only [decide_eq_true_eq] at hc8
    have hsk := Tab.key_of hck (show k < tt.length by omega)
    refine c_skip (q_then (c_seq (c_block (c_seq (c_region ?_)))))
    refine o_p (p_indexAddr (L := tt) (T := tSlot) (i := (k : Int)) rfl rfl (rd_base (i := 1) rfl htt) Try.underlying22 sz33 (by omega) (by omega)) ?_
    refine o_p (p_loadEn (i := k) (T := tSlot) (L := tt) (vs := [.bool ((tt[k]).used), .string ((tt[k]).key), Vi ((tt[k]).value)]) rfl (rd_base (i := 1) rfl htt) (by first | assumption | omega) sh33 rfl) ?_
    refine o_alloc ze33 rfl (fun B9 => ?_)
    refine o_storeN (i := 0) (vs := [.bool ((tt[k]).used), .string ((tt[k]).key), Vi ((tt[k]).value)]) (cs' := [.bool ((tt[k]).used), .string ((tt[k]).key), Vi ((tt[k]).value)]) rfl rfl rfl sz33 rfl rfl rfl rfl ?_
    refine o_nil (q_then (c_seq (c_region ?_)))
    refine o_p (p_fieldAddr (j' := 0) rfl fo33_0 rfl) ?_
    refine o_p (p_load (i := 0) (v := .bool ((tt[k]).used)) rfl rfl sh4 rfl) ?_
    refine o_mv rfl rfl ?_
    rcases Bool.eq_false_or_eq_true ((tt[k]).used) with hb10 | hb10
    ·rw [hb10]
     refine o_unguard 31 rfl rfl ?_
     refine o_mv rfl rfl ?_
     refine o_unguard 31 rfl rfl ?_
     refine o_p (p_fieldAddr (j' := 1) rfl fo33_1 rfl) ?_
     refine o_unguard 31 rfl rfl ?_
     refine o_p (p_load (i := 0) (v := .string ((tt[k]).key)) rfl rfl sh9 rfl) ?_
     refine o_unguard 31 rfl rfl ?_
     refine o_p (p_fieldAddr (j' := 2) rfl fo33_2 rfl) ?_
     refine o_unguard 31 rfl rfl ?_
     refine o_p (p_load (i := 0) (v := Vi ((tt[k]).value)) rfl rfl sh3 rfl) ?_
     refine o_unguard 31 rfl rfl ?_
     refine o_pick (H' := [own tSlot S5 a4 slots.toNat ls, box B9 [.bool true, .string ((tt[k]).key), Vi ((tt[k]).value)] 33, base w0]) [1, 0, 2] (by decide) rfl ?_
     refine o_callX (pre := [own tSlot S5 a4 slots.toNat ls]) (R := [box B9 [.bool true, .string ((tt[k]).key), Vi ((tt[k]).value)] 33, base w0]) rfl (tput_ok ls a4 slots.toNat S5 ((tt[k]).key) ((tt[k]).value) (by first | assumption | omega)) hf58 rfl (fun _ _ => trivial) rfl ?_
     rintro ⟨⟩
     refine o_asH (H' := [own tSlot S5 a4 slots.toNat (Tab.put ls ((tt[k]).key) ((tt[k]).value)), box B9 [.bool true, .string ((tt[k]).key), Vi ((tt[k]).value)] 33, base w0]) rfl ?_
     refine o_cast (F' := [(7, .slice a4 (Tab.put ls ((tt[k]).key) ((tt[k]).value)).length slots.toNat), (23, .slice att tt.length ctt), (24, Vi (tt.length : Int)), (25, Vi (k : Int)), (31, .bool true), (32, .slice a4 (Tab.put ls ((tt[k]).key) ((tt[k]).value)).length slots.toNat), (33, .pointer (some ⟨B9, 1, none⟩)), (34, .string ((tt[k]).key)), (35, .pointer (some ⟨B9, 2, none⟩)), (36, Vi ((tt[k]).value)), (37, .bool (!decide (Tab.putAt ls ((tt[k]).key) < 0)))]) (H := [own tSlot S5 a4 slots.toNat (Tab.put ls ((tt[k]).key) ((tt[k]).value)), box B9 [.bool true, .string ((tt[k]).key), Vi ((tt[k]).value)] 33, base w0]) (H' := [own tSlot S5 a4 slots.toNat (Tab.put ls ((tt[k]).key) ((tt[k]).value)), box B9 [.bool true, .string ((tt[k]).key), Vi ((tt[k]).value)] 33, base w0]) (Sub.cons (by simp only [List.length_set, List.length_reverse, Tab.put_len]; rfl) (sr (sr (sr (sr (Sub.cons (by simp only [List.length_set, List.length_reverse, Tab.put_len]; rfl) (sr (sr (sr (sr (sr (Sub.nil _)))))))))))) (by rfl) ?_
     refine o_unguard 31 rfl rfl ?_
     refine o_p (p_not (b := (!decide (Tab.putAt ls ((tt[k]).key) < 0))) rfl) ?_
     refine o_pt rfl rfl rfl ?_
     refine o_nil (q_then ?_)
     refine c_cond rfl (fun hc11 => ?_) (fun hc11 => ?_)
     ·simp only [Bool.not_eq_true', Bool.not_eq_false', decide_eq_true_eq] at hc11
      have hpt := hc11
      refine c_seq (c_region ?_)
      refine o_as rfl rfl ?_
      refine o_as rfl rfl ?_
      refine o_nil (q_then (c_ret ?_))
      refine q_block_ret (q_then_ret (q_then_ret (q_block_ret (q_then_ret ?_))))
      obtain ⟨c1, c2⟩ : _ ∧ _ := by first | exact Tab.z1 (t := tt) (n := slots) (by assumption) | exact Tab.z2 (t := tt) (n := slots) hck (by omega) | exact hI.bad hck (by omega) (by omega) ⟨by assumption, by simpa using hpt⟩ | exact hI.done hck (by omega) (by omega)
      have hr0 : ([] : List DSlot) = (Tab.sizeR tt slots) := by
       first | exact c1.symm | exact c2.symm
      have hr1 : (8 : Int) = (Tab.sizeErr tt slots) := by
       first | exact c1.symm | exact c2.symm
      refine q_endM (p := (none, 0)) (fun _ => False) (rt2 rfl (r_tmp rfl) (r_tmp rfl)) (i := 2) rfl ?_ ?_ ?_
      ·exact (by have hcc := congr (congrArg (fun (y0 : List DSlot) (y1 : Int) => (.tuple #[.slice none y0.length 0, .int .i64 y1] : Value)) hr0) hr1; exact hcc)
      ·intro w hw b hb; exact hb.elim
      ·intro w hw; exact Eq.mp (congrArg (fun y => SlO tSlot _ w none 0 y) hr0) (SlO.nil tSlot w)
     ·simp only [Bool.not_eq_false', Bool.not_eq_true', decide_eq_false_iff_not, Int.not_lt] at hc11
      have hpt := hc11
      refine c_skip ?_
      refine q_block_normal (q_then ?_)
      refine c_region ?_
      refine o_p (p_addb rfl rfl (by omega)) ?_
      refine o_mv rfl rfl ?_
      refine o_nil ?_
      refine q_round hK7 (k + 1, (Tab.put ls ((tt[k]).key) ((tt[k]).value))) ?_ ?_ ?_ ?_
      ·clear hK7
       first | exact hI.add (by omega) ⟨by assumption, by simpa using hpt⟩ | exact hI.skip (by omega) (by assumption)
      ·(try dsimp only); omega
      ·exact sr (sr (sr (sr (Sub.nil _))))
      ·exact pk [0, 2]
    ·rw [hb10]
     have hpt := hb10
     refine o_guard_no rfl 31 rfl rfl rfl rfl rfl ?_
     refine o_guard_no rfl 31 rfl rfl rfl rfl rfl ?_
     refine o_guard_no rfl 31 rfl rfl rfl rfl rfl ?_
     refine o_guard_no rfl 31 rfl rfl rfl rfl rfl ?_
     refine o_guard_no rfl 31 rfl rfl rfl rfl rfl ?_
     refine o_guard_no rfl 31 rfl rfl rfl rfl rfl ?_
     refine o_guard_no rfl 31 rfl rfl rfl rfl rfl ?_
     refine o_pf rfl rfl rfl ?_
     refine o_nil (q_then ?_)
     refine c_false rfl ?_
     refine c_skip ?_
     refine q_block_normal (q_then ?_)
     refine c_region ?_
     refine o_p (p_addb rfl rfl (by omega)) ?_
     refine o_mv rfl rfl ?_
     refine o_nil ?_
     refine q_round hK7 (k + 1, ls) ?_ ?_ ?_ ?_
     ·clear hK7
      first | exact hI.add (by omega) ⟨by assumption, by simpa using hpt⟩ | exact hI.skip (by omega) (by assumption)
     ·(try dsimp only); omega
     ·exact sr (sr (sr (sr (Sub.nil _))))
     ·exact pk [1, 2]
   ·simp only [decide_eq_false_iff_not, Int.not_lt] at hc8
    refine c_exit ?_
    refine q_then_exit (q_then_exit (q_block_exit (q_then ?_)))
    refine c_seq (c_region ?_)
    refine o_mv rfl rfl ?_
    refine o_as rfl rfl ?_
    refine o_as rfl rfl ?_
    refine o_nil (q_then (c_ret ?_))
    obtain ⟨c1, c2⟩ : _ ∧ _ := by first | exact Tab.z1 (t := tt) (n := slots) (by assumption) | exact Tab.z2 (t := tt) (n := slots) hck (by omega) | exact hI.bad hck (by omega) (by omega) ⟨by assumption, by simpa using hpt⟩ | exact hI.done hck (by omega) (by omega)
    have hr0 : (ls : List DSlot) = (Tab.sizeR tt slots) := by
     first | exact c1.symm | exact c2.symm
    have hr1 : (0 : Int) = (Tab.sizeErr tt slots) := by
     first | exact c1.symm | exact c2.symm
    refine q_endM (p := (a4, slots.toNat)) S5 (rt2 rfl (r_tmp rfl) (r_tmp rfl)) (i := 1) rfl ?_ ?_ ?_
    ·exact (by have hcc := congr (congrArg (fun (y0 : List DSlot) (y1 : Int) => (.tuple #[.slice a4 y0.length slots.toNat, .int .i64 y1] : Value)) hr0) hr1; exact hcc)
    ·exact fun w hw => hw.above (i := 1) (j := 0) (by decide) rfl rfl
    ·intro w hw; exact Eq.mp (congrArg (fun y => SlO tSlot _ w a4 slots.toNat y) hr0) ((hw.at (i := 0) rfl).here)
end Go.Proofs.Ythecfjipaepcgaa
