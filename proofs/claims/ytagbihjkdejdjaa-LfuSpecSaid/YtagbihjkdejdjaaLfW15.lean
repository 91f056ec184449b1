/- The walks, printed by a program from the translation and a specification. -/
import Derived.Test.YtagbihjkdejdjaaLfF
import Derived.Test.YtagbihjkdejdjaaLfLaw5
import Derived.Test.YtagbihjkdejdjaaLfW14
import Derived.Test.YtagbihjkdejdjaaLfW9
import Derived.Test.YtagbihjkdejdjaaLfW12
namespace Go.Proofs.Ytagbihjkdejdjaa
open Go.Sx Go.RowKit
set_option maxHeartbeats 8000000 in
set_option maxRecDepth 100000 in
theorem lfuSpec_ok (u : DUses) (au_0 : Option Addr) (cu_0 : Nat) (key : Int) (l : List Int) (al : Option Addr) (cl : Nat) : Fn0 Try.prog 3 [.agg #[.int .i64 u.room, .slice au_0 u.list.length cu_0], .int .i64 key, .slice al l.length cl] (fun w => Rd tUse w au_0 cu_0 u.list ∧ Rd tInt w al cl l) (.bool true) := by
 refine fn0 (nt := 181) (F0 := [(0, .agg #[.int .i64 u.room, .slice au_0 u.list.length cu_0]), (1, .int .i64 key), (2, .slice al l.length cl)]) Try.func3 rfl Try.ntmps3 rfl rfl (fun w0 hpre => ?_)
 obtain ⟨hu_0, hl⟩ := hpre
 have hlhu_0 := hu_0.2.1
 have hlhl := hl.2.1
 refine c_seq ?_
 refine c_region ?_
 refine o_box (v := .agg #[.int .i64 u.room, .slice au_0 u.list.length cu_0]) rfl rfl (fun B1 => ?_)
 refine o_pure (p_assign (v := .bool false) rfl) rfl rfl rfl ?_
 refine o_nil ?_
 refine q_then ?_
 refine c_seq ?_
 refine c_region ?_
 refine o_pure (p_load_agg (i := 0) (vs := [.int .i64 u.room, .slice au_0 u.list.length cu_0]) rfl rfl sh24 rfl rfl) rfl rfl rfl ?_
 refine o_mv (v := .int .i64 key) rfl rfl ?_
 refine o_callM rfl (faccess_ok u au_0 cu_0 key) hf15 (fun w hw => (rd_base (i := 1) rfl hu_0) w hw) rfl (fun _ _ _ _ ha hA => SlO.agree ha hA) ?_
 rintro ⟨a4, c5⟩ S2
 refine o_know (fun w hw => own_len (i := 0) (T := tUse) hw rfl) (fun hlr6 => ?_)
 refine o_mv (v := .tuple #[.agg #[.int .i64 (((Lfu.access u key).1).room), .slice a4 (((Lfu.access u key).1).list).length c5], .bool ((Lfu.access u key).2.1), .int .i64 ((Lfu.access u key).2.2), .int .i64 (Lfu.accessErr u key)]) rfl rfl ?_
 refine o_pure (p_extract (vs := [.agg #[.int .i64 (((Lfu.access u key).1).room), .slice a4 (((Lfu.access u key).1).list).length c5], .bool ((Lfu.access u key).2.1), .int .i64 ((Lfu.access u key).2.2), .int .i64 (Lfu.accessErr u key)]) (v := .agg #[.int .i64 (((Lfu.access u key).1).room), .slice a4 (((Lfu.access u key).1).list).length c5]) rfl rfl) rfl rfl rfl ?_
 refine o_pure (p_extract (vs := [.agg #[.int .i64 (((Lfu.access u key).1).room), .slice a4 (((Lfu.access u key).1).list).length c5], .bool ((Lfu.access u key).2.1), .int .i64 ((Lfu.access u key).2.2), .int .i64 (Lfu.accessErr u key)]) (v := .bool ((Lfu.access u key).2.1)) rfl rfl) rfl rfl rfl ?_
 refine o_pure (p_extract (vs := [.agg #[.int .i64 (((Lfu.access u key).1).room), .slice a4 (((Lfu.access u key).1).list).length c5], .bool ((Lfu.access u key).2.1), .int .i64 ((Lfu.access u key).2.2), .int .i64 (Lfu.accessErr u key)]) (v := .int .i64 ((Lfu.access u key).2.2)) rfl rfl) rfl rfl rfl ?_
 refine o_pure (p_extract (vs := [.agg #[.int .i64 (((Lfu.access u key).1).room), .slice a4 (((Lfu.access u key).1).list).length c5], .bool ((Lfu.access u key).2.1), .int .i64 ((Lfu.access u key).2.2), .int .i64 (Lfu.accessErr u key)]) (v := .int .i64 (Lfu.accessErr u key)) rfl rfl) rfl rfl rfl ?_
 refine o_alloc ze24 rfl (fun B7 => ?_)
 refine o_storeN (i := 0) (vs := [.int .i64 (((Lfu.access u key).1).room), .slice a4 (((Lfu.access u key).1).list).length c5]) (cs' := [.int .i64 (((Lfu.access u key).1).room), .slice a4 (((Lfu.access u key).1).list).length c5]) rfl rfl rfl sz24 rfl rfl rfl rfl ?_
 refine o_pure (p_assign (v := .bool ((Lfu.access u key).2.1)) rfl) rfl rfl rfl ?_
 refine o_pure (p_assign (v := .int .i64 ((Lfu.access u key).2.2)) rfl) rfl rfl rfl ?_
 refine o_pure (p_assign (v := .int .i64 (Lfu.accessErr u key)) rfl) rfl rfl rfl ?_
 refine o_nil ?_
 refine q_then ?_
 refine c_seq ?_
 refine c_region ?_
 refine o_pure (p_load_agg (i := 2) (vs := [.int .i64 u.room, .slice au_0 u.list.length cu_0]) rfl rfl sh24 rfl rfl) rfl rfl rfl ?_
 refine o_mv (v := .slice al l.length cl) rfl rfl ?_
 refine o_callM rfl (frun_ok u au_0 cu_0 l al cl) hf16 (fun w hw => ⟨(rd_base (i := 3) rfl hu_0) w hw, (rd_base (i := 3) rfl hl) w hw⟩) rfl (fun _ _ _ _ ha hA => SlO.agree ha hA) ?_
 rintro ⟨a10, c11⟩ S8
 refine o_know (fun w hw => own_len (i := 0) (T := tUse) hw rfl) (fun hlr12 => ?_)
 refine o_mv (v := .tuple #[.agg #[.int .i64 (((Lfu.run u l).1).room), .slice a10 (((Lfu.run u l).1).list).length c11], .int .i64 ((Lfu.run u l).2), .int .i64 (Lfu.runErr u l)]) rfl rfl ?_
 refine o_pure (p_extract (vs := [.agg #[.int .i64 (((Lfu.run u l).1).room), .slice a10 (((Lfu.run u l).1).list).length c11], .int .i64 ((Lfu.run u l).2), .int .i64 (Lfu.runErr u l)]) (v := .agg #[.int .i64 (((Lfu.run u l).1).room), .slice a10 (((Lfu.run u l).1).list).length c11]) rfl rfl) rfl rfl rfl ?_
 refine o_pure (p_extract (vs := [.agg #[.int .i64 (((Lfu.run u l).1).room), .slice a10 (((Lfu.run u l).1).list).length c11], .int .i64 ((Lfu.run u l).2), .int .i64 (Lfu.runErr u l)]) (v := .int .i64 ((Lfu.run u l).2)) rfl rfl) rfl rfl rfl ?_
 refine o_pure (p_extract (vs := [.agg #[.int .i64 (((Lfu.run u l).1).room), .slice a10 (((Lfu.run u l).1).list).length c11], .int .i64 ((Lfu.run u l).2), .int .i64 (Lfu.runErr u l)]) (v := .int .i64 (Lfu.runErr u l)) rfl rfl) rfl rfl rfl ?_
 refine o_alloc ze24 rfl (fun B13 => ?_)
 refine o_storeN (i := 0) (vs := [.int .i64 (((Lfu.run u l).1).room), .slice a10 (((Lfu.run u l).1).list).length c11]) (cs' := [.int .i64 (((Lfu.run u l).1).room), .slice a10 (((Lfu.run u l).1).list).length c11]) rfl rfl rfl sz24 rfl rfl rfl rfl ?_
 refine o_pure (p_assign (v := .int .i64 ((Lfu.run u l).2)) rfl) rfl rfl rfl ?_
 refine o_pure (p_assign (v := .int .i64 (Lfu.runErr u l)) rfl) rfl rfl rfl ?_
 refine o_nil ?_
 refine q_then ?_
 refine c_seq ?_
 refine c_region ?_
 refine o_pure (p_load_agg (i := 4) (vs := [.int .i64 u.room, .slice au_0 u.list.length cu_0]) rfl rfl sh24 rfl rfl) rfl rfl rfl ?_
 refine o_callM rfl (fage_ok u au_0 cu_0) hf17 (fun w hw => (rd_base (i := 5) rfl hu_0) w hw) rfl (fun _ _ _ _ ha hA => SlO.agree ha hA) ?_
 rintro ⟨a16, c17⟩ S14
 refine o_know (fun w hw => own_len (i := 0) (T := tUse) hw rfl) (fun hlr18 => ?_)
 refine o_mv (v := .tuple #[.agg #[.int .i64 ((Lfu.age u).room), .slice a16 ((Lfu.age u).list).length c17], .int .i64 (Lfu.check u)]) rfl rfl ?_
 refine o_pure (p_extract (vs := [.agg #[.int .i64 ((Lfu.age u).room), .slice a16 ((Lfu.age u).list).length c17], .int .i64 (Lfu.check u)]) (v := .agg #[.int .i64 ((Lfu.age u).room), .slice a16 ((Lfu.age u).list).length c17]) rfl rfl) rfl rfl rfl ?_
 refine o_pure (p_extract (vs := [.agg #[.int .i64 ((Lfu.age u).room), .slice a16 ((Lfu.age u).list).length c17], .int .i64 (Lfu.check u)]) (v := .int .i64 (Lfu.check u)) rfl rfl) rfl rfl rfl ?_
 refine o_alloc ze24 rfl (fun B19 => ?_)
 refine o_storeN (i := 0) (vs := [.int .i64 ((Lfu.age u).room), .slice a16 ((Lfu.age u).list).length c17]) (cs' := [.int .i64 ((Lfu.age u).room), .slice a16 ((Lfu.age u).list).length c17]) rfl rfl rfl sz24 rfl rfl rfl rfl ?_
 refine o_pure (p_assign (v := .int .i64 (Lfu.check u)) rfl) rfl rfl rfl ?_
 refine o_nil ?_
 refine q_then ?_
 refine c_seq ?_
 refine c_region ?_
 refine o_pure (p_load_agg (i := 6) (vs := [.int .i64 u.room, .slice au_0 u.list.length cu_0]) rfl rfl sh24 rfl rfl) rfl rfl rfl ?_
 refine o_call0 (v := .tuple #[.int .i64 (Lfu.victim u), .int .i64 (Lfu.victimErr u)]) rfl (fvictim_ok u au_0 cu_0) hf18 (fun w hw => (rd_base (i := 7) rfl hu_0) w hw) rfl ?_
 refine o_mv (v := .tuple #[.int .i64 (Lfu.victim u), .int .i64 (Lfu.victimErr u)]) rfl rfl ?_
 refine o_pure (p_extract (vs := [.int .i64 (Lfu.victim u), .int .i64 (Lfu.victimErr u)]) (v := .int .i64 (Lfu.victim u)) rfl rfl) rfl rfl rfl ?_
 refine o_pure (p_extract (vs := [.int .i64 (Lfu.victim u), .int .i64 (Lfu.victimErr u)]) (v := .int .i64 (Lfu.victimErr u)) rfl rfl) rfl rfl rfl ?_
 refine o_pure (p_assign (v := .int .i64 (Lfu.victim u)) rfl) rfl rfl rfl ?_
 refine o_pure (p_assign (v := .int .i64 (Lfu.victimErr u)) rfl) rfl rfl rfl ?_
 refine o_nil ?_
 refine q_then ?_
 refine c_seq ?_
 refine c_region ?_
 refine o_pure (p_load_agg (i := 6) (vs := [.int .i64 u.room, .slice au_0 u.list.length cu_0]) rfl rfl sh24 rfl rfl) rfl rfl rfl ?_
 refine o_call0 (v := .int .i64 (Lfu.check u)) rfl (rfcheck_ok u au_0 cu_0) hf19 (fun w hw => (rd_base (i := 7) rfl hu_0) w hw) rfl ?_
 refine o_pure (p_assign (v := .int .i64 (Lfu.check u)) rfl) rfl rfl rfl ?_
 refine o_nil ?_
 refine q_then ?_
 refine c_seq ?_
 refine c_region ?_
 refine o_mv (v := .int .i64 (Lfu.check u)) rfl rfl ?_
 refine o_mv (v := .int .i64 (Lfu.check u)) rfl rfl ?_
 refine o_mv (v := .int .i64 (Lfu.check u)) rfl rfl ?_
 refine o_pure (p_assign (v := .int .i64 (Lfu.check u)) rfl) rfl rfl rfl ?_
 refine o_pure (p_assign (v := .int .i64 (Lfu.check u)) rfl) rfl rfl rfl ?_
 refine o_pure (p_assign (v := .int .i64 (Lfu.check u)) rfl) rfl rfl rfl ?_
 refine o_nil ?_
 refine q_then ?_
 refine c_seq ?_
 refine c_region ?_
 refine o_alloc ze24 rfl (fun B20 => ?_)
 refine o_alloc ze24 rfl (fun B21 => ?_)
 refine o_alloc ze24 rfl (fun B22 => ?_)
 refine o_nil ?_
 refine q_then ?_
 refine c_seq ?_
 refine c_region ?_
 refine o_pure (p_assign (v := .bool false) rfl) rfl rfl rfl ?_
 refine o_pure (p_assign (v := .int .i64 0) rfl) rfl rfl rfl ?_
 refine o_pure (p_assign (v := .int .i64 0) rfl) rfl rfl rfl ?_
 refine o_pure (p_assign (v := .int .i64 0) rfl) rfl rfl rfl ?_
 refine o_nil ?_
 refine q_then ?_
 refine c_seq ?_
 refine c_seq ?_
 refine c_region ?_
 refine o_mv (v := .int .i64 (Lfu.check u)) rfl rfl ?_
 refine o_pure (p_eq (p := (Lfu.check u)) (q := 0) rfl rfl) rfl rfl rfl ?_
 refine o_nil ?_
 refine q_then ?_
 refine c_cond (b := ((Lfu.check u) == 0)) rfl (fun hc23 => ?_) (fun hc23 => ?_)
 ·simp only [beq_iff_eq] at hc23
  have hok := Lfu.ok_of hc23
  have hroom := hok.room
  have hlen := hok.len
  refine c_seq ?_
  refine c_seq ?_
  refine c_region ?_
  refine o_mv (v := .int .i64 key) rfl rfl ?_
  refine o_pure (p_lt (p := key) (q := 0) rfl rfl) rfl rfl rfl ?_
  refine o_mv (v := .bool (decide (key < 0))) rfl rfl ?_
  refine o_or (p := 67) 3 (decide (1048576 < key)) ?_ ?_ ?_
  ·intro hb24 hk
   simp only [decide_eq_false_iff_not, Int.not_lt] at hb24
   refine o_unguard 64 rfl rfl ?_
   refine o_mv (v := .int .i64 key) rfl rfl ?_
   refine o_unguard 64 rfl rfl ?_
   refine o_pure (p_gt (p := key) (q := 1048576) rfl rfl) rfl rfl rfl ?_
   refine o_pf (v := .bool (decide (1048576 < key))) rfl rfl rfl ?_
   exact o_sub (Sub.cons rfl (Sub.skip rfl (Sub.skip rfl (Sub.skip rfl (Sub.skip rfl (Sub.refl _)))))) hk
  ·intro hb24 hk
   refine o_guard_no rfl 64 rfl rfl rfl rfl rfl ?_
   refine o_guard_no rfl 64 rfl rfl rfl rfl rfl ?_
   refine o_pt (v := .bool true) rfl rfl rfl ?_
   exact o_sub (Sub.cons rfl (Sub.skip rfl (Sub.skip rfl (Sub.skip rfl (Sub.skip rfl (Sub.refl _)))))) hk
  refine o_nil ?_
  refine q_then ?_
  refine c_cond (b := (decide (key < 0) || decide (1048576 < key))) rfl (fun hc25 => ?_) (fun hc25 => ?_)
  ·simp only [Bool.or_eq_true, decide_eq_true_eq] at hc25
   refine c_region ?_
   refine o_pure (p_assign (v := .int .i64 3) rfl) rfl rfl rfl ?_
   refine o_nil ?_
   refine q_then ?_
   refine c_seq ?_
   refine c_seq ?_
   refine c_region ?_
   refine o_mv (v := .slice al l.length cl) rfl rfl ?_
   refine o_call0 (v := .int .i64 (Lru.trace l)) rfl (traceCheck_ok l al cl) hf21 (fun w hw => (rd_base (i := 10) rfl hl) w hw) rfl ?_
   refine o_pure (p_assign (v := .int .i64 (Lru.trace l)) rfl) rfl rfl rfl ?_
   refine o_nil ?_
   refine q_then ?_
   refine c_seq ?_
   refine c_region ?_
   refine o_mv (v := .int .i64 (Lru.trace l)) rfl rfl ?_
   refine o_pure (p_eq (p := (Lru.trace l)) (q := 0) rfl rfl) rfl rfl rfl ?_
   refine o_nil ?_
   refine q_then ?_
   refine c_cond (b := ((Lru.trace l) == 0)) rfl (fun hc26 => ?_) (fun hc26 => ?_)
   ·simp only [beq_iff_eq] at hc26
    have hkeys := (Lru.trace_ok.1 hc26).2
    refine c_region ?_
    refine o_pure (p_load_agg (i := 9) (vs := [.int .i64 u.room, .slice au_0 u.list.length cu_0]) rfl rfl sh24 rfl rfl) rfl rfl rfl ?_
    refine o_mv (v := .slice al l.length cl) rfl rfl ?_
    refine o_callM rfl (rfrun_ok u au_0 cu_0 l al cl (by first | assumption | exact ⟨hok, hkeys⟩)) hf22 (fun w hw => ⟨(rd_base (i := 10) rfl hu_0) w hw, (rd_base (i := 10) rfl hl) w hw⟩) rfl (fun _ _ _ _ ha hA => hA.imp (fun h => SlR.agree ha h) id) ?_
    rintro ⟨a29, c30⟩ S27
    refine o_mv (v := .tuple #[.agg #[.int .i64 (((Lfu.runGo u 0 l).1).room), .slice a29 (((Lfu.runGo u 0 l).1).list).length c30], .int .i64 ((Lfu.runGo u 0 l).2)]) rfl rfl ?_
    refine o_pure (p_extract (vs := [.agg #[.int .i64 (((Lfu.runGo u 0 l).1).room), .slice a29 (((Lfu.runGo u 0 l).1).list).length c30], .int .i64 ((Lfu.runGo u 0 l).2)]) (v := .agg #[.int .i64 (((Lfu.runGo u 0 l).1).room), .slice a29 (((Lfu.runGo u 0 l).1).list).length c30]) rfl rfl) rfl rfl rfl ?_
    refine o_pure (p_extract (vs := [.agg #[.int .i64 (((Lfu.runGo u 0 l).1).room), .slice a29 (((Lfu.runGo u 0 l).1).list).length c30], .int .i64 ((Lfu.runGo u 0 l).2)]) (v := .int .i64 ((Lfu.runGo u 0 l).2)) rfl rfl) rfl rfl rfl ?_
    refine o_storeN (i := 2) (vs := [.int .i64 (((Lfu.runGo u 0 l).1).room), .slice a29 (((Lfu.runGo u 0 l).1).list).length c30]) (cs' := [.int .i64 (((Lfu.runGo u 0 l).1).room), .slice a29 (((Lfu.runGo u 0 l).1).list).length c30]) rfl rfl rfl sz24 rfl rfl rfl rfl ?_
    refine o_pure (p_assign (v := .int .i64 ((Lfu.runGo u 0 l).2)) rfl) rfl rfl rfl ?_
    refine o_nil ?_
    refine q_then ?_
    refine c_seq ?_
    refine c_held hmix [loose tUse (a29 = au_0 ∧ c30 = cu_0 ∧ (((Lfu.runGo u 0 l).1).list) = u.list) S27 a29 c30 (((Lfu.runGo u 0 l).1).list), box B21 [.int .i64 (((Lfu.runGo u 0 l).1).room), .slice a29 (((Lfu.runGo u 0 l).1).list).length c30] 24, box B20 [.int .i64 0, .slice none 0 0] 24, box B19 [.int .i64 ((Lfu.age u).room), .slice a16 ((Lfu.age u).list).length c17] 24, own tUse S14 a16 c17 ((Lfu.age u).list), box B13 [.int .i64 (((Lfu.run u l).1).room), .slice a10 (((Lfu.run u l).1).list).length c11] 24, own tUse S8 a10 c11 (((Lfu.run u l).1).list), box B7 [.int .i64 (((Lfu.access u key).1).room), .slice a4 (((Lfu.access u key).1).list).length c5] 24, own tUse S2 a4 c5 (((Lfu.access u key).1).list), box B1 [.int .i64 u.room, .slice au_0 u.list.length cu_0] 24, base w0] rfl rfl ?_
    refine h_take (i := 0) (ls := #[true, false, false, false, false, false, false, false]) rfl (by kernel_rfl) (by kernel_rfl) (by kernel_rfl) (fun _ _ _ h => h) (p_fieldAddr (B := B1) (j := 0) (j' := 0) rfl fo24_0 rfl) rfl rfl rfl (fun _ hw => HeapIs.drop hw (List.Sublist.cons_cons _ (List.Sublist.cons _ (List.Sublist.cons_cons _ (List.Sublist.cons_cons _ (List.Sublist.cons_cons _ (List.Sublist.cons_cons _ (List.Sublist.cons_cons _ (List.Sublist.cons_cons _ (List.Sublist.cons_cons _ (List.Sublist.cons_cons _ (List.Sublist.cons_cons _ (List.Sublist.cons_cons _ (List.Sublist.slnil)))))))))))))) rfl ?_
    refine h_take (i := 1) (ls := #[true, true, false, false, false, false, false, false]) rfl (by kernel_rfl) (by kernel_rfl) (by kernel_rfl) (fun _ _ _ h => h) (p_load (i := 9) (v := .int .i64 u.room) rfl rfl sh3 rfl) rfl rfl rfl (fun _ hw => HeapIs.drop hw (List.Sublist.cons_cons _ (List.Sublist.cons _ (List.Sublist.cons_cons _ (List.Sublist.cons_cons _ (List.Sublist.cons_cons _ (List.Sublist.cons_cons _ (List.Sublist.cons_cons _ (List.Sublist.cons_cons _ (List.Sublist.cons_cons _ (List.Sublist.cons_cons _ (List.Sublist.cons_cons _ (List.Sublist.cons_cons _ (List.Sublist.slnil)))))))))))))) rfl ?_
    refine h_take (i := 3) (ls := #[true, true, false, true, false, false, false, false]) rfl (by kernel_rfl) (by kernel_rfl) (by kernel_rfl) (fun _ _ _ h => h) (p_fieldAddr (B := B1) (j := 0) (j' := 1) rfl fo24_1 rfl) rfl rfl rfl (fun _ hw => HeapIs.drop hw (List.Sublist.cons_cons _ (List.Sublist.cons _ (List.Sublist.cons_cons _ (List.Sublist.cons_cons _ (List.Sublist.cons_cons _ (List.Sublist.cons_cons _ (List.Sublist.cons_cons _ (List.Sublist.cons_cons _ (List.Sublist.cons_cons _ (List.Sublist.cons_cons _ (List.Sublist.cons_cons _ (List.Sublist.cons_cons _ (List.Sublist.slnil)))))))))))))) rfl ?_
    refine h_take (i := 4) (ls := #[true, true, false, true, true, false, false, false]) rfl (by kernel_rfl) (by kernel_rfl) (by kernel_rfl) (fun _ _ _ h => h) (p_load (i := 9) (v := .slice au_0 u.list.length cu_0) rfl rfl sh22 rfl) rfl rfl rfl (fun _ hw => HeapIs.drop hw (List.Sublist.cons_cons _ (List.Sublist.cons _ (List.Sublist.cons_cons _ (List.Sublist.cons_cons _ (List.Sublist.cons_cons _ (List.Sublist.cons_cons _ (List.Sublist.cons_cons _ (List.Sublist.cons_cons _ (List.Sublist.cons_cons _ (List.Sublist.cons_cons _ (List.Sublist.cons_cons _ (List.Sublist.cons_cons _ (List.Sublist.slnil)))))))))))))) rfl ?_
    refine h_one (i := 2) (ls := #[true, true, true, true, true, false, false, false]) (by kernel_rfl) rfl rfl ?_
    refine o_buildSlice (m := 0) (T := tUse) (L := []) (vs := []) rfl rfl rfl rfl Try.underlying22 sz42 (by decide) ze42 rfl (by decide) rfl (fun S31_2 a31_2 => ?_)
    refine o_nil ?_
    refine h_next (fun _ hw => HeapIs.drop hw (List.Sublist.cons _ (List.Sublist.cons_cons _ (List.Sublist.cons _ (List.Sublist.cons_cons _ (List.Sublist.cons_cons _ (List.Sublist.cons_cons _ (List.Sublist.cons_cons _ (List.Sublist.cons_cons _ (List.Sublist.cons_cons _ (List.Sublist.cons_cons _ (List.Sublist.cons_cons _ (List.Sublist.cons_cons _ (List.Sublist.cons_cons _ (List.Sublist.slnil))))))))))))))) ?_
    refine h_one (i := 5) (ls := #[true, true, true, true, true, true, false, false]) (by kernel_rfl) rfl rfl ?_
    refine o_append (i := 0) (L := []) (M := u.list) (T := tUse) rfl rfl rfl (rd_base (i := 12) rfl hu_0) Try.underlying22 Try.underlying22 (by intro k h; cases h) el42 (by intro z; simp [tUse, one1]) (by decide) (by first | omega | (simp only [List.length_cons, List.length_nil]; omega) | (simp only [List.length_append, List.length_cons, List.length_nil, List.length_take, List.length_drop]; omega)) rfl (fun a31_5 c31_5 S31_5 => ?_)
    refine o_nil ?_
    refine h_next (fun _ hw => HeapIs.drop hw (List.Sublist.cons _ (List.Sublist.cons_cons _ (List.Sublist.cons _ (List.Sublist.cons_cons _ (List.Sublist.cons_cons _ (List.Sublist.cons_cons _ (List.Sublist.cons_cons _ (List.Sublist.cons_cons _ (List.Sublist.cons_cons _ (List.Sublist.cons_cons _ (List.Sublist.cons_cons _ (List.Sublist.cons_cons _ (List.Sublist.cons_cons _ (List.Sublist.slnil))))))))))))))) ?_
    refine h_take (i := 6) (ls := #[true, true, true, true, true, true, true, false]) rfl (by kernel_rfl) (by kernel_rfl) (by kernel_rfl) (fun _ _ _ h => h) (p_build (cells := [.int .i64 u.room, .slice a31_5 u.list.length c31_5]) fp24 ze24 rfl rfl) rfl rfl rfl (fun _ hw => HeapIs.drop hw (List.Sublist.cons _ (List.Sublist.cons_cons _ (List.Sublist.cons _ (List.Sublist.cons_cons _ (List.Sublist.cons_cons _ (List.Sublist.cons_cons _ (List.Sublist.cons_cons _ (List.Sublist.cons_cons _ (List.Sublist.cons_cons _ (List.Sublist.cons_cons _ (List.Sublist.cons_cons _ (List.Sublist.cons_cons _ (List.Sublist.cons_cons _ (List.Sublist.slnil))))))))))))))) rfl ?_
    refine h_one (i := 7) (ls := #[true, true, true, true, true, true, true, true]) (by kernel_rfl) rfl rfl ?_
    refine o_storeN (i := 2) (vs := [.int .i64 u.room, .slice a31_5 u.list.length c31_5]) (cs' := [.int .i64 u.room, .slice a31_5 u.list.length c31_5]) rfl rfl rfl sz24 rfl rfl rfl rfl ?_
    refine o_nil ?_
    refine h_next (fun _ hw => HeapIs.drop hw (List.Sublist.cons _ (List.Sublist.cons_cons _ (List.Sublist.cons _ (List.Sublist.cons_cons _ (List.Sublist.cons_cons _ (List.Sublist.cons_cons _ (List.Sublist.cons_cons _ (List.Sublist.cons_cons _ (List.Sublist.cons_cons _ (List.Sublist.cons_cons _ (List.Sublist.cons_cons _ (List.Sublist.cons_cons _ (List.Sublist.cons_cons _ (List.Sublist.slnil))))))))))))))) ?_
    refine h_done (by kernel_rfl) ?_
    refine q_then ?_
    refine c_seq ?_
    refine c_seq ?_
    refine c_region ?_
    refine o_pure (p_assign (v := .int .i64 0) rfl) rfl rfl rfl ?_
    refine o_nil ?_
    refine q_then ?_
    refine c_block ?_
    refine c_loop (St := Nat × DUses × Option Addr × Nat × (Nat → Prop))
     (fun ⟨i, ag, aag_0, cag_0, Sag_0⟩ => [(3, .pointer (some ⟨B1, 0, none⟩)), (7, .pointer (some ⟨B7, 0, none⟩)), (8, .bool ((Lfu.access u key).2.1)), (9, .int .i64 ((Lfu.access u key).2.2)), (10, .int .i64 (Lfu.accessErr u key)), (11, .pointer (some ⟨B13, 0, none⟩)), (12, .int .i64 ((Lfu.run u l).2)), (13, .int .i64 (Lfu.runErr u l)), (14, .pointer (some ⟨B19, 0, none⟩)), (15, .int .i64 (Lfu.check u)), (16, .int .i64 (Lfu.victim u)), (17, .int .i64 (Lfu.victimErr u)), (18, .int .i64 (Lfu.check u)), (19, .int .i64 3), (20, .int .i64 (Lru.trace l)), (21, .int .i64 (Lfu.check u)), (22, .pointer (some ⟨B20, 0, none⟩)), (23, .pointer (some ⟨B21, 0, none⟩)), (24, .pointer (some ⟨B22, 0, none⟩)), (25, .bool false), (26, .int .i64 0), (27, .int .i64 ((Lfu.runGo u 0 l).2)), (28, .int .i64 0), (29, .int .i64 (i : Int))])
     (fun ⟨i, ag, aag_0, cag_0, Sag_0⟩ => [own tUse Sag_0 aag_0 cag_0 ag.list, loose tUse (a29 = au_0 ∧ c30 = cu_0 ∧ (((Lfu.runGo u 0 l).1).list) = u.list) S27 a29 c30 (((Lfu.runGo u 0 l).1).list), box B22 [.int .i64 ag.room, .slice aag_0 ag.list.length cag_0] 24, box B21 [.int .i64 (((Lfu.runGo u 0 l).1).room), .slice a29 (((Lfu.runGo u 0 l).1).list).length c30] 24, box B20 [.int .i64 0, .slice none 0 0] 24, box B19 [.int .i64 ((Lfu.age u).room), .slice a16 ((Lfu.age u).list).length c17] 24, own tUse S14 a16 c17 ((Lfu.age u).list), box B13 [.int .i64 (((Lfu.run u l).1).room), .slice a10 (((Lfu.run u l).1).list).length c11] 24, own tUse S8 a10 c11 (((Lfu.run u l).1).list), box B7 [.int .i64 (((Lfu.access u key).1).room), .slice a4 (((Lfu.access u key).1).list).length c5] 24, own tUse S2 a4 c5 (((Lfu.access u key).1).list), box B1 [.int .i64 u.room, .slice au_0 u.list.length cu_0] 24, base w0])
     (fun ⟨i, ag, aag_0, cag_0, Sag_0⟩ => ag.room = u.room ∧ Lfu.GInv u.list ag.list i)
     (fun ⟨i, ag, aag_0, cag_0, Sag_0⟩ => u.list.length - i)
     (0, u, a31_5, c31_5, S31_5) ?_ (Sub.cons rfl (Sub.cons rfl (Sub.cons rfl (Sub.cons rfl (Sub.cons rfl (Sub.cons rfl (Sub.cons rfl (Sub.cons rfl (Sub.cons rfl (Sub.cons rfl (Sub.cons rfl (Sub.cons rfl (Sub.cons rfl (Sub.cons rfl (Sub.cons rfl (Sub.cons rfl (Sub.cons rfl (Sub.cons rfl (Sub.cons rfl (Sub.cons rfl (Sub.cons rfl (Sub.cons rfl (Sub.cons rfl (Sub.cons rfl (Sub.nil _))))))))))))))))))))))))) (fun _ hw => hw) ?_
    ·exact ⟨rfl, Lfu.GInv.start _⟩
    rintro ⟨i, ag, aag_0, cag_0, Sag_0⟩ hI K hK32
    have hul := hI.2.len
    show SC _ _ Try.prog 181 w0 _ _ [(3, .pointer (some ⟨B1, 0, none⟩)), (7, .pointer (some ⟨B7, 0, none⟩)), (8, .bool ((Lfu.access u key).2.1)), (9, .int .i64 ((Lfu.access u key).2.2)), (10, .int .i64 (Lfu.accessErr u key)), (11, .pointer (some ⟨B13, 0, none⟩)), (12, .int .i64 ((Lfu.run u l).2)), (13, .int .i64 (Lfu.runErr u l)), (14, .pointer (some ⟨B19, 0, none⟩)), (15, .int .i64 (Lfu.check u)), (16, .int .i64 (Lfu.victim u)), (17, .int .i64 (Lfu.victimErr u)), (18, .int .i64 (Lfu.check u)), (19, .int .i64 3), (20, .int .i64 (Lru.trace l)), (21, .int .i64 (Lfu.check u)), (22, .pointer (some ⟨B20, 0, none⟩)), (23, .pointer (some ⟨B21, 0, none⟩)), (24, .pointer (some ⟨B22, 0, none⟩)), (25, .bool false), (26, .int .i64 0), (27, .int .i64 ((Lfu.runGo u 0 l).2)), (28, .int .i64 0), (29, .int .i64 (i : Int))] [own tUse Sag_0 aag_0 cag_0 ag.list, loose tUse (a29 = au_0 ∧ c30 = cu_0 ∧ (((Lfu.runGo u 0 l).1).list) = u.list) S27 a29 c30 (((Lfu.runGo u 0 l).1).list), box B22 [.int .i64 ag.room, .slice aag_0 ag.list.length cag_0] 24, box B21 [.int .i64 (((Lfu.runGo u 0 l).1).room), .slice a29 (((Lfu.runGo u 0 l).1).list).length c30] 24, box B20 [.int .i64 0, .slice none 0 0] 24, box B19 [.int .i64 ((Lfu.age u).room), .slice a16 ((Lfu.age u).list).length c17] 24, own tUse S14 a16 c17 ((Lfu.age u).list), box B13 [.int .i64 (((Lfu.run u l).1).room), .slice a10 (((Lfu.run u l).1).list).length c11] 24, own tUse S8 a10 c11 (((Lfu.run u l).1).list), box B7 [.int .i64 (((Lfu.access u key).1).room), .slice a4 (((Lfu.access u key).1).list).length c5] 24, own tUse S2 a4 c5 (((Lfu.access u key).1).list), box B1 [.int .i64 u.room, .slice au_0 u.list.length cu_0] 24, base w0]
    refine c_seq ?_
    refine c_seq ?_
    refine c_region ?_
    refine o_mv (v := .int .i64 (i : Int)) rfl rfl ?_
    refine o_pure (p_fieldAddr (B := B22) (j := 0) (j' := 1) rfl fo24_1 rfl) rfl rfl rfl ?_
    refine o_pure (p_load (i := 2) (v := .slice aag_0 ag.list.length cag_0) rfl rfl sh22 rfl) rfl rfl rfl ?_
    refine o_pure (p_len_slice (len := ag.list.length) rfl rfl Try.underlying22) rfl rfl rfl ?_
    refine o_pure (p_lt (p := (i : Int)) (q := (ag.list.length : Int)) rfl rfl) rfl rfl rfl ?_
    refine o_nil ?_
    refine q_then ?_
    refine c_cond (b := decide ((i : Int) < (ag.list.length : Int))) rfl (fun hc33 => ?_) (fun hc33 => ?_)
    ·simp only [decide_eq_true_eq] at hc33
     have hcb := hI.2.cnt hok (by omega)
     have hhb := Lfu.half_bd hcb
     refine c_skip ?_
     refine q_then ?_
     refine c_seq ?_
     refine c_block ?_
     refine c_held hmix [ownE tUse Sag_0 aag_0 cag_0 (ag.list.length), loose tUse (a29 = au_0 ∧ c30 = cu_0 ∧ (((Lfu.runGo u 0 l).1).list) = u.list) S27 a29 c30 (((Lfu.runGo u 0 l).1).list), box B22 [.int .i64 ag.room, .slice aag_0 ag.list.length cag_0] 24, box B21 [.int .i64 (((Lfu.runGo u 0 l).1).room), .slice a29 (((Lfu.runGo u 0 l).1).list).length c30] 24, box B20 [.int .i64 0, .slice none 0 0] 24, box B19 [.int .i64 ((Lfu.age u).room), .slice a16 ((Lfu.age u).list).length c17] 24, own tUse S14 a16 c17 ((Lfu.age u).list), box B13 [.int .i64 (((Lfu.run u l).1).room), .slice a10 (((Lfu.run u l).1).list).length c11] 24, own tUse S8 a10 c11 (((Lfu.run u l).1).list), box B7 [.int .i64 (((Lfu.access u key).1).room), .slice a4 (((Lfu.access u key).1).list).length c5] 24, own tUse S2 a4 c5 (((Lfu.access u key).1).list), box B1 [.int .i64 u.room, .slice au_0 u.list.length cu_0] 24, base w0] rfl rfl ?_
     refine h_take (i := 0) (ls := #[true, false, false, false, false, false, false, false, false, false, false, false, false, false]) rfl (by kernel_rfl) (by kernel_rfl) (by kernel_rfl) (fun _ _ _ h => h) (p_fieldAddr (B := B22) (j := 0) (j' := 1) rfl fo24_1 rfl) rfl rfl rfl (fun _ hw => HeapIs.drop (HeapIs.toE (i := 0) (m := ag.list.length) (T := tUse) rfl (by simp only [List.length_set]) hw) (List.Sublist.refl _)) rfl ?_
     refine h_take (i := 1) (ls := #[true, true, false, false, false, false, false, false, false, false, false, false, false, false]) rfl (by kernel_rfl) (by kernel_rfl) (by kernel_rfl) (fun _ _ _ h => h) (p_load (i := 2) (v := .slice aag_0 ag.list.length cag_0) rfl rfl sh22 rfl) rfl rfl rfl (fun _ hw => HeapIs.drop (HeapIs.toE (i := 0) (m := ag.list.length) (T := tUse) rfl (by simp only [List.length_set]) hw) (List.Sublist.refl _)) rfl ?_
     refine h_take (i := 2) (ls := #[true, true, true, false, false, false, false, false, false, false, false, false, false, false]) rfl (by kernel_rfl) (by kernel_rfl) (by kernel_rfl) (fun _ _ _ h => h) (p_move (v := .int .i64 (i : Int)) rfl) rfl rfl rfl (fun _ hw => HeapIs.drop (HeapIs.toE (i := 0) (m := ag.list.length) (T := tUse) rfl (by simp only [List.length_set]) hw) (List.Sublist.refl _)) rfl ?_
     refine h_take (i := 3) (ls := #[true, true, true, true, false, false, false, false, false, false, false, false, false, false]) rfl (by kernel_rfl) (by kernel_rfl) (by kernel_rfl) (fun _ _ _ h => h) (p_fieldAddr (B := B22) (j := 0) (j' := 1) rfl fo24_1 rfl) rfl rfl rfl (fun _ hw => HeapIs.drop (HeapIs.toE (i := 0) (m := ag.list.length) (T := tUse) rfl (by simp only [List.length_set]) hw) (List.Sublist.refl _)) rfl ?_
     refine h_take (i := 4) (ls := #[true, true, true, true, true, false, false, false, false, false, false, false, false, false]) rfl (by kernel_rfl) (by kernel_rfl) (by kernel_rfl) (fun _ _ _ h => h) (p_load (i := 2) (v := .slice aag_0 ag.list.length cag_0) rfl rfl sh22 rfl) rfl rfl rfl (fun _ hw => HeapIs.drop (HeapIs.toE (i := 0) (m := ag.list.length) (T := tUse) rfl (by simp only [List.length_set]) hw) (List.Sublist.refl _)) rfl ?_
     refine h_take (i := 5) (ls := #[true, true, true, true, true, true, false, false, false, false, false, false, false, false]) rfl (by kernel_rfl) (by kernel_rfl) (by kernel_rfl) (fun _ _ _ h => h) (p_move (v := .int .i64 (i : Int)) rfl) rfl rfl rfl (fun _ hw => HeapIs.drop (HeapIs.toE (i := 0) (m := ag.list.length) (T := tUse) rfl (by simp only [List.length_set]) hw) (List.Sublist.refl _)) rfl ?_
     refine h_take (i := 6) (ls := #[true, true, true, true, true, true, true, false, false, false, false, false, false, false]) rfl (by kernel_rfl) (by kernel_rfl) (by kernel_rfl) (fun _ _ _ h => h) (p_indexAddrE (T := tUse) (i := (i : Int)) (j := 0) rfl rfl rfl Try.underlying22 sz42 (by omega) (by omega)) rfl rfl rfl (fun _ hw => HeapIs.drop (HeapIs.toE (i := 0) (m := ag.list.length) (T := tUse) rfl (by simp only [List.length_set]) hw) (List.Sublist.refl _)) rfl ?_
     refine h_take (i := 7) (ls := #[true, true, true, true, true, true, true, true, false, false, false, false, false, false]) rfl (by kernel_rfl) (by kernel_rfl) (by kernel_rfl) (fun _ _ _ h => h) (p_fieldAddrE rfl fo42_1) rfl rfl rfl (fun _ hw => HeapIs.drop (HeapIs.toE (i := 0) (m := ag.list.length) (T := tUse) rfl (by simp only [List.length_set]) hw) (List.Sublist.refl _)) rfl ?_
     refine h_one (i := 8) (ls := #[true, true, true, true, true, true, true, true, true, false, false, false, false, false]) (by kernel_rfl) rfl rfl ?_
     refine o_pure (p_loadF (i := i) (j := 1) (T := tUse) (L := ag.list) (v := .int .i64 ((ag.list[i]).count)) rfl (rd_own (i := 0) rfl) (by first | assumption | omega) sh3 rfl) rfl rfl rfl ?_
     refine o_nil ?_
     refine h_next (fun _ hw => HeapIs.drop (HeapIs.toE (i := 0) (m := ag.list.length) (T := tUse) rfl (by simp only [List.length_set]) hw) (List.Sublist.refl _)) ?_
     refine h_take (i := 9) (ls := #[true, true, true, true, true, true, true, true, true, true, false, false, false, false]) rfl (by kernel_rfl) (by kernel_rfl) (by kernel_rfl) (fun _ _ _ h => h) (p_quob (p := (ag.list[i]).count) (q := 2) rfl rfl (by decide) (by omega)) rfl rfl rfl (fun _ hw => HeapIs.drop (HeapIs.toE (i := 0) (m := ag.list.length) (T := tUse) rfl (by simp only [List.length_set]) hw) (List.Sublist.refl _)) rfl ?_
     refine h_take (i := 10) (ls := #[true, true, true, true, true, true, true, true, true, true, true, false, false, false]) rfl (by kernel_rfl) (by kernel_rfl) (by kernel_rfl) (fun _ _ _ h => h) (p_max (p := 1) (q := (((ag.list[i]).count).tdiv 2)) rfl rfl) rfl rfl rfl (fun _ hw => HeapIs.drop (HeapIs.toE (i := 0) (m := ag.list.length) (T := tUse) rfl (by simp only [List.length_set]) hw) (List.Sublist.refl _)) rfl ?_
     refine h_take (i := 11) (ls := #[true, true, true, true, true, true, true, true, true, true, true, true, false, false]) rfl (by kernel_rfl) (by kernel_rfl) (by kernel_rfl) (fun _ _ _ h => h) (p_indexAddrE (T := tUse) (i := (i : Int)) (j := 0) rfl rfl rfl Try.underlying22 sz42 (by omega) (by omega)) rfl rfl rfl (fun _ hw => HeapIs.drop (HeapIs.toE (i := 0) (m := ag.list.length) (T := tUse) rfl (by simp only [List.length_set]) hw) (List.Sublist.refl _)) rfl ?_
     refine h_take (i := 12) (ls := #[true, true, true, true, true, true, true, true, true, true, true, true, true, false]) rfl (by kernel_rfl) (by kernel_rfl) (by kernel_rfl) (fun _ _ _ h => h) (p_fieldAddrE rfl fo42_1) rfl rfl rfl (fun _ hw => HeapIs.drop (HeapIs.toE (i := 0) (m := ag.list.length) (T := tUse) rfl (by simp only [List.length_set]) hw) (List.Sublist.refl _)) rfl ?_
     refine h_one (i := 13) (ls := #[true, true, true, true, true, true, true, true, true, true, true, true, true, true]) (by kernel_rfl) rfl rfl ?_
     refine o_storeF (j := 1) (i := 0) (T := tUse) (idx := i) (v := .int .i64 (max 1 (((ag.list[i]).count).tdiv 2))) (vs := [.int .i64 (max 1 (((ag.list[i]).count).tdiv 2))]) (z := (⟨(ag.list[i]).key, (max 1 (((ag.list[i]).count).tdiv 2))⟩ : DUse)) rfl rfl rfl rfl (by first | assumption | omega | (simp only [List.length_set]; omega)) sz3 rfl rfl rfl rfl (Sub.refl _) ?_
     refine o_nil ?_
     refine h_next (fun _ hw => HeapIs.drop (HeapIs.toE (i := 0) (m := ag.list.length) (T := tUse) rfl (by simp only [List.length_set]) hw) (List.Sublist.refl _)) ?_
     refine h_done (by kernel_rfl) ?_
     refine q_cast (F' := [(3, .pointer (some ⟨B1, 0, none⟩)), (7, .pointer (some ⟨B7, 0, none⟩)), (8, .bool ((Lfu.access u key).2.1)), (9, .int .i64 ((Lfu.access u key).2.2)), (10, .int .i64 (Lfu.accessErr u key)), (11, .pointer (some ⟨B13, 0, none⟩)), (12, .int .i64 ((Lfu.run u l).2)), (13, .int .i64 (Lfu.runErr u l)), (14, .pointer (some ⟨B19, 0, none⟩)), (15, .int .i64 (Lfu.check u)), (16, .int .i64 (Lfu.victim u)), (17, .int .i64 (Lfu.victimErr u)), (18, .int .i64 (Lfu.check u)), (19, .int .i64 3), (20, .int .i64 (Lru.trace l)), (21, .int .i64 (Lfu.check u)), (22, .pointer (some ⟨B20, 0, none⟩)), (23, .pointer (some ⟨B21, 0, none⟩)), (24, .pointer (some ⟨B22, 0, none⟩)), (25, .bool false), (26, .int .i64 0), (27, .int .i64 ((Lfu.runGo u 0 l).2)), (28, .int .i64 0), (29, .int .i64 (i : Int))]) (H := [own tUse Sag_0 aag_0 cag_0 (ag.list.set i (⟨(ag.list[i]).key, (max 1 (((ag.list[i]).count).tdiv 2))⟩ : DUse)), loose tUse (a29 = au_0 ∧ c30 = cu_0 ∧ (((Lfu.runGo u 0 l).1).list) = u.list) S27 a29 c30 (((Lfu.runGo u 0 l).1).list), box B22 [.int .i64 ag.room, .slice aag_0 ag.list.length cag_0] 24, box B21 [.int .i64 (((Lfu.runGo u 0 l).1).room), .slice a29 (((Lfu.runGo u 0 l).1).list).length c30] 24, box B20 [.int .i64 0, .slice none 0 0] 24, box B19 [.int .i64 ((Lfu.age u).room), .slice a16 ((Lfu.age u).list).length c17] 24, own tUse S14 a16 c17 ((Lfu.age u).list), box B13 [.int .i64 (((Lfu.run u l).1).room), .slice a10 (((Lfu.run u l).1).list).length c11] 24, own tUse S8 a10 c11 (((Lfu.run u l).1).list), box B7 [.int .i64 (((Lfu.access u key).1).room), .slice a4 (((Lfu.access u key).1).list).length c5] 24, own tUse S2 a4 c5 (((Lfu.access u key).1).list), box B1 [.int .i64 u.room, .slice au_0 u.list.length cu_0] 24, base w0]) (H' := [own tUse Sag_0 aag_0 cag_0 (ag.list.set i (⟨(ag.list[i]).key, (max 1 (((ag.list[i]).count).tdiv 2))⟩ : DUse)), loose tUse (a29 = au_0 ∧ c30 = cu_0 ∧ (((Lfu.runGo u 0 l).1).list) = u.list) S27 a29 c30 (((Lfu.runGo u 0 l).1).list), box B22 [.int .i64 ag.room, .slice aag_0 (ag.list.set i (⟨(ag.list[i]).key, (max 1 (((ag.list[i]).count).tdiv 2))⟩ : DUse)).length cag_0] 24, box B21 [.int .i64 (((Lfu.runGo u 0 l).1).room), .slice a29 (((Lfu.runGo u 0 l).1).list).length c30] 24, box B20 [.int .i64 0, .slice none 0 0] 24, box B19 [.int .i64 ((Lfu.age u).room), .slice a16 ((Lfu.age u).list).length c17] 24, own tUse S14 a16 c17 ((Lfu.age u).list), box B13 [.int .i64 (((Lfu.run u l).1).room), .slice a10 (((Lfu.run u l).1).list).length c11] 24, own tUse S8 a10 c11 (((Lfu.run u l).1).list), box B7 [.int .i64 (((Lfu.access u key).1).room), .slice a4 (((Lfu.access u key).1).list).length c5] 24, own tUse S2 a4 c5 (((Lfu.access u key).1).list), box B1 [.int .i64 u.room, .slice au_0 u.list.length cu_0] 24, base w0]) (Sub.cons rfl (Sub.cons rfl (Sub.cons rfl (Sub.cons rfl (Sub.cons rfl (Sub.cons rfl (Sub.cons rfl (Sub.cons rfl (Sub.cons rfl (Sub.cons rfl (Sub.cons rfl (Sub.cons rfl (Sub.cons rfl (Sub.cons rfl (Sub.cons rfl (Sub.cons rfl (Sub.cons rfl (Sub.cons rfl (Sub.cons rfl (Sub.cons rfl (Sub.cons rfl (Sub.cons rfl (Sub.cons rfl (Sub.cons rfl (Sub.nil _))))))))))))))))))))))))) (by simp only [List.length_set, List.length_reverse]) ?_
     refine q_block_normal (q_then ?_)
     refine c_region ?_
     refine o_mv (v := .int .i64 (i : Int)) rfl rfl ?_
     refine o_pure (p_addb (p := (i : Int)) (q := 1) rfl rfl (by omega)) rfl rfl rfl ?_
     refine o_pure (p_assign (v := .int .i64 ((i : Int) + 1)) rfl) rfl rfl rfl ?_
     refine o_nil ?_
     refine q_round hK32 (i + 1, (⟨ag.room, (ag.list.set i (⟨(ag.list[i]).key, (max 1 (((ag.list[i]).count).tdiv 2))⟩ : DUse))⟩ : DUses), aag_0, cag_0, Sag_0) ?_ ?_ ?_ ?_
     ·clear hK32
      exact ⟨hI.1, hI.2.next (by omega)⟩
     ·(try dsimp only); omega
     ·exact Sub.cons rfl (Sub.cons rfl (Sub.cons rfl (Sub.cons rfl (Sub.cons rfl (Sub.cons rfl (Sub.cons rfl (Sub.cons rfl (Sub.cons rfl (Sub.cons rfl (Sub.cons rfl (Sub.cons rfl (Sub.cons rfl (Sub.cons rfl (Sub.cons rfl (Sub.cons rfl (Sub.cons rfl (Sub.cons rfl (Sub.cons rfl (Sub.cons rfl (Sub.cons rfl (Sub.cons rfl (Sub.cons rfl (Sub.cons rfl (Sub.nil _))))))))))))))))))))))))
     ·exact fun _ hw => HeapIs.pick hw [0, 1, 2, 3, 4, 5, 6, 7, 8, 9, 10, 11, 12] (by decide) rfl
    ·simp only [decide_eq_false_iff_not, Int.not_lt] at hc33
     refine c_exit ?_
     refine q_then_exit (q_then_exit (q_block_exit (q_then ?_)))
     refine c_seq ?_
     refine c_region ?_
     refine o_pure (p_fieldAddr (B := B1) (j := 0) (j' := 1) rfl fo24_1 rfl) rfl rfl rfl ?_
     refine o_pure (p_load (i := 11) (v := .slice au_0 u.list.length cu_0) rfl rfl sh22 rfl) rfl rfl rfl ?_
     refine o_pure (p_len_slice (len := u.list.length) rfl rfl Try.underlying22) rfl rfl rfl ?_
     refine o_pure (p_eq (p := (u.list.length : Int)) (q := 0) rfl rfl) rfl rfl rfl ?_
     refine o_nil ?_
     refine q_then ?_
     refine c_cond (b := ((u.list.length : Int) == 0)) rfl (fun hc35 => ?_) (fun hc35 => ?_)
     ·simp only [beq_iff_eq] at hc35
      refine c_region ?_
      refine o_pure (p_assign (v := .int .i64 5) rfl) rfl rfl rfl ?_
      refine o_nil ?_
      refine q_then ?_
      refine c_seq ?_
      refine c_region ?_
      refine o_call0 (v := .bool true) rfl (lfuBegun_ok ) hf24 (fun _ _ => trivial) rfl ?_
      refine o_mv (v := .bool true) rfl rfl ?_
      refine o_unguard 120 rfl rfl ?_
      refine o_pure (p_load_agg (i := 11) (vs := [.int .i64 u.room, .slice au_0 u.list.length cu_0]) rfl rfl sh24 rfl rfl) rfl rfl rfl ?_
      refine o_unguard 120 rfl rfl ?_
      refine o_call0 (v := .int .i64 (Lfu.check u)) rfl (fcheck_ok u au_0 cu_0) hf25 (fun w hw => (rd_base (i := 12) rfl hu_0) w hw) rfl ?_
      refine o_unguard 120 rfl rfl ?_
      refine o_mv (v := .int .i64 (Lfu.check u)) rfl rfl ?_
      refine o_unguard 120 rfl rfl ?_
      refine o_pure (p_eq (p := (Lfu.check u)) (q := (Lfu.check u)) rfl rfl) rfl rfl rfl ?_
      refine o_pt (v := .bool ((Lfu.check u) == (Lfu.check u))) rfl rfl rfl ?_
      refine o_mv (v := .bool ((Lfu.check u) == (Lfu.check u))) rfl rfl ?_
      refine o_and (p := 130) 4 (decide (((Lfu.access u key).1) = (⟨0, []⟩ : DUses))) ?_ ?_ ?_
      ·intro hb36 hk
       simp only [beq_iff_eq] at hb36
       refine o_unguard 126 rfl rfl ?_
       refine o_pure (p_load_agg (i := 9) (vs := [.int .i64 (((Lfu.access u key).1).room), .slice a4 (((Lfu.access u key).1).list).length c5]) rfl rfl sh24 rfl rfl) rfl rfl rfl ?_
       refine o_unguard 126 rfl rfl ?_
       refine o_pure (p_load_agg (i := 4) (vs := [.int .i64 0, .slice none 0 0]) rfl rfl sh24 rfl rfl) rfl rfl rfl ?_
       refine o_unguard 126 rfl rfl ?_
       refine o_call0 (v := .bool (decide (((Lfu.access u key).1) = (⟨0, []⟩ : DUses)))) rfl (sameUses_ok ((Lfu.access u key).1) a4 c5 (⟨0, []⟩ : DUses) none 0) hf26 (fun w hw => ⟨(rd_own (i := 10) rfl) w hw, rd_nil w hw⟩) rfl ?_
       refine o_pt (v := .bool (decide (((Lfu.access u key).1) = (⟨0, []⟩ : DUses)))) rfl rfl rfl ?_
       exact o_sub (Sub.cons rfl (Sub.skip rfl (Sub.skip rfl (Sub.skip rfl (Sub.skip rfl (Sub.skip rfl (Sub.refl _))))))) hk
      ·intro hb36 hk
       refine o_guard_no rfl 126 rfl rfl rfl rfl rfl ?_
       refine o_guard_no rfl 126 rfl rfl rfl rfl rfl ?_
       refine o_guard_no rfl 126 rfl rfl rfl rfl rfl ?_
       refine o_pf (v := .bool false) rfl rfl rfl ?_
       exact o_sub (Sub.cons rfl (Sub.skip rfl (Sub.skip rfl (Sub.skip rfl (Sub.skip rfl (Sub.skip rfl (Sub.refl _))))))) hk
      refine o_mv (v := .bool (((Lfu.check u) == (Lfu.check u)) && (decide (((Lfu.access u key).1) = (⟨0, []⟩ : DUses))))) rfl rfl ?_
      refine o_and (p := 135) 4 (((Lfu.access u key).2.1) == false) ?_ ?_ ?_
      ·intro hb37 hk
       simp only [Bool.and_eq_true, beq_iff_eq, decide_eq_true_eq] at hb37
       refine o_unguard 131 rfl rfl ?_
       refine o_mv (v := .bool ((Lfu.access u key).2.1)) rfl rfl ?_
       refine o_unguard 131 rfl rfl ?_
       refine o_mv (v := .bool false) rfl rfl ?_
       refine o_unguard 131 rfl rfl ?_
       refine o_pure (p_eqBool (b := ((Lfu.access u key).2.1)) (c := false) rfl rfl Try.underlying4) rfl rfl rfl ?_
       refine o_pt (v := .bool (((Lfu.access u key).2.1) == false)) rfl rfl rfl ?_
       exact o_sub (Sub.cons rfl (Sub.skip rfl (Sub.skip rfl (Sub.skip rfl (Sub.skip rfl (Sub.skip rfl (Sub.refl _))))))) hk
      ·intro hb37 hk
       refine o_guard_no rfl 131 rfl rfl rfl rfl rfl ?_
       refine o_guard_no rfl 131 rfl rfl rfl rfl rfl ?_
       refine o_guard_no rfl 131 rfl rfl rfl rfl rfl ?_
       refine o_pf (v := .bool false) rfl rfl rfl ?_
       exact o_sub (Sub.cons rfl (Sub.skip rfl (Sub.skip rfl (Sub.skip rfl (Sub.skip rfl (Sub.skip rfl (Sub.refl _))))))) hk
      refine o_mv (v := .bool ((((Lfu.check u) == (Lfu.check u)) && (decide (((Lfu.access u key).1) = (⟨0, []⟩ : DUses)))) && (((Lfu.access u key).2.1) == false))) rfl rfl ?_
      refine o_and (p := 140) 4 (((Lfu.access u key).2.2) == 0) ?_ ?_ ?_
      ·intro hb38 hk
       simp only [Bool.and_eq_true, beq_iff_eq, decide_eq_true_eq] at hb38
       refine o_unguard 136 rfl rfl ?_
       refine o_mv (v := .int .i64 ((Lfu.access u key).2.2)) rfl rfl ?_
       refine o_unguard 136 rfl rfl ?_
       refine o_mv (v := .int .i64 0) rfl rfl ?_
       refine o_unguard 136 rfl rfl ?_
       refine o_pure (p_eq (p := ((Lfu.access u key).2.2)) (q := 0) rfl rfl) rfl rfl rfl ?_
       refine o_pt (v := .bool (((Lfu.access u key).2.2) == 0)) rfl rfl rfl ?_
       exact o_sub (Sub.cons rfl (Sub.skip rfl (Sub.skip rfl (Sub.skip rfl (Sub.skip rfl (Sub.skip rfl (Sub.refl _))))))) hk
      ·intro hb38 hk
       refine o_guard_no rfl 136 rfl rfl rfl rfl rfl ?_
       refine o_guard_no rfl 136 rfl rfl rfl rfl rfl ?_
       refine o_guard_no rfl 136 rfl rfl rfl rfl rfl ?_
       refine o_pf (v := .bool false) rfl rfl rfl ?_
       exact o_sub (Sub.cons rfl (Sub.skip rfl (Sub.skip rfl (Sub.skip rfl (Sub.skip rfl (Sub.skip rfl (Sub.refl _))))))) hk
      refine o_mv (v := .bool (((((Lfu.check u) == (Lfu.check u)) && (decide (((Lfu.access u key).1) = (⟨0, []⟩ : DUses)))) && (((Lfu.access u key).2.1) == false)) && (((Lfu.access u key).2.2) == 0))) rfl rfl ?_
      refine o_and (p := 145) 4 ((Lfu.accessErr u key) == 3) ?_ ?_ ?_
      ·intro hb39 hk
       simp only [Bool.and_eq_true, beq_iff_eq, decide_eq_true_eq] at hb39
       refine o_unguard 141 rfl rfl ?_
       refine o_mv (v := .int .i64 (Lfu.accessErr u key)) rfl rfl ?_
       refine o_unguard 141 rfl rfl ?_
       refine o_mv (v := .int .i64 3) rfl rfl ?_
       refine o_unguard 141 rfl rfl ?_
       refine o_pure (p_eq (p := (Lfu.accessErr u key)) (q := 3) rfl rfl) rfl rfl rfl ?_
       refine o_pt (v := .bool ((Lfu.accessErr u key) == 3)) rfl rfl rfl ?_
       exact o_sub (Sub.cons rfl (Sub.skip rfl (Sub.skip rfl (Sub.skip rfl (Sub.skip rfl (Sub.skip rfl (Sub.refl _))))))) hk
      ·intro hb39 hk
       refine o_guard_no rfl 141 rfl rfl rfl rfl rfl ?_
       refine o_guard_no rfl 141 rfl rfl rfl rfl rfl ?_
       refine o_guard_no rfl 141 rfl rfl rfl rfl rfl ?_
       refine o_pf (v := .bool false) rfl rfl rfl ?_
       exact o_sub (Sub.cons rfl (Sub.skip rfl (Sub.skip rfl (Sub.skip rfl (Sub.skip rfl (Sub.skip rfl (Sub.refl _))))))) hk
      refine o_mv (v := .bool ((((((Lfu.check u) == (Lfu.check u)) && (decide (((Lfu.access u key).1) = (⟨0, []⟩ : DUses)))) && (((Lfu.access u key).2.1) == false)) && (((Lfu.access u key).2.2) == 0)) && ((Lfu.accessErr u key) == 3))) rfl rfl ?_
      refine o_and (p := 150) 4 (decide (((Lfu.run u l).1) = ((Lfu.runGo u 0 l).1))) ?_ ?_ ?_
      ·intro hb40 hk
       simp only [Bool.and_eq_true, beq_iff_eq, decide_eq_true_eq] at hb40
       refine o_unguard 146 rfl rfl ?_
       refine o_pure (p_load_agg (i := 7) (vs := [.int .i64 (((Lfu.run u l).1).room), .slice a10 (((Lfu.run u l).1).list).length c11]) rfl rfl sh24 rfl rfl) rfl rfl rfl ?_
       refine o_unguard 146 rfl rfl ?_
       refine o_pure (p_load_agg (i := 3) (vs := [.int .i64 (((Lfu.runGo u 0 l).1).room), .slice a29 (((Lfu.runGo u 0 l).1).list).length c30]) rfl rfl sh24 rfl rfl) rfl rfl rfl ?_
       refine o_unguard 146 rfl rfl ?_
       refine o_call0 (v := .bool (decide (((Lfu.run u l).1) = ((Lfu.runGo u 0 l).1)))) rfl (sameUses_ok ((Lfu.run u l).1) a10 c11 ((Lfu.runGo u 0 l).1) a29 c30) hf26 (fun w hw => ⟨(rd_own (i := 8) rfl) w hw, (rd_loose (i := 1) rfl (fun hφ => by obtain ⟨h1, h2, h3⟩ := hφ; intro w hw; have g1 : a29 = au_0 := h1; have g2 : c30 = cu_0 := h2; have g3 : ((Lfu.runGo u 0 l).1).list = u.list := h3; rw [g1, g2, g3]; exact (rd_base (i := 12) rfl hu_0) w hw)) w hw⟩) rfl ?_
       refine o_pt (v := .bool (decide (((Lfu.run u l).1) = ((Lfu.runGo u 0 l).1)))) rfl rfl rfl ?_
       exact o_sub (Sub.cons rfl (Sub.skip rfl (Sub.skip rfl (Sub.skip rfl (Sub.skip rfl (Sub.skip rfl (Sub.refl _))))))) hk
      ·intro hb40 hk
       refine o_guard_no rfl 146 rfl rfl rfl rfl rfl ?_
       refine o_guard_no rfl 146 rfl rfl rfl rfl rfl ?_
       refine o_guard_no rfl 146 rfl rfl rfl rfl rfl ?_
       refine o_pf (v := .bool false) rfl rfl rfl ?_
       exact o_sub (Sub.cons rfl (Sub.skip rfl (Sub.skip rfl (Sub.skip rfl (Sub.skip rfl (Sub.skip rfl (Sub.refl _))))))) hk
      refine o_mv (v := .bool (((((((Lfu.check u) == (Lfu.check u)) && (decide (((Lfu.access u key).1) = (⟨0, []⟩ : DUses)))) && (((Lfu.access u key).2.1) == false)) && (((Lfu.access u key).2.2) == 0)) && ((Lfu.accessErr u key) == 3)) && (decide (((Lfu.run u l).1) = ((Lfu.runGo u 0 l).1))))) rfl rfl ?_
      refine o_and (p := 155) 4 (((Lfu.run u l).2) == ((Lfu.runGo u 0 l).2)) ?_ ?_ ?_
      ·intro hb41 hk
       simp only [Bool.and_eq_true, beq_iff_eq, decide_eq_true_eq] at hb41
       refine o_unguard 151 rfl rfl ?_
       refine o_mv (v := .int .i64 ((Lfu.run u l).2)) rfl rfl ?_
       refine o_unguard 151 rfl rfl ?_
       refine o_mv (v := .int .i64 ((Lfu.runGo u 0 l).2)) rfl rfl ?_
       refine o_unguard 151 rfl rfl ?_
       refine o_pure (p_eq (p := ((Lfu.run u l).2)) (q := ((Lfu.runGo u 0 l).2)) rfl rfl) rfl rfl rfl ?_
       refine o_pt (v := .bool (((Lfu.run u l).2) == ((Lfu.runGo u 0 l).2))) rfl rfl rfl ?_
       exact o_sub (Sub.cons rfl (Sub.skip rfl (Sub.skip rfl (Sub.skip rfl (Sub.skip rfl (Sub.skip rfl (Sub.refl _))))))) hk
      ·intro hb41 hk
       refine o_guard_no rfl 151 rfl rfl rfl rfl rfl ?_
       refine o_guard_no rfl 151 rfl rfl rfl rfl rfl ?_
       refine o_guard_no rfl 151 rfl rfl rfl rfl rfl ?_
       refine o_pf (v := .bool false) rfl rfl rfl ?_
       exact o_sub (Sub.cons rfl (Sub.skip rfl (Sub.skip rfl (Sub.skip rfl (Sub.skip rfl (Sub.skip rfl (Sub.refl _))))))) hk
      refine o_mv (v := .bool ((((((((Lfu.check u) == (Lfu.check u)) && (decide (((Lfu.access u key).1) = (⟨0, []⟩ : DUses)))) && (((Lfu.access u key).2.1) == false)) && (((Lfu.access u key).2.2) == 0)) && ((Lfu.accessErr u key) == 3)) && (decide (((Lfu.run u l).1) = ((Lfu.runGo u 0 l).1)))) && (((Lfu.run u l).2) == ((Lfu.runGo u 0 l).2)))) rfl rfl ?_
      refine o_and (p := 160) 4 ((Lfu.runErr u l) == (Lru.trace l)) ?_ ?_ ?_
      ·intro hb42 hk
       simp only [Bool.and_eq_true, beq_iff_eq, decide_eq_true_eq] at hb42
       refine o_unguard 156 rfl rfl ?_
       refine o_mv (v := .int .i64 (Lfu.runErr u l)) rfl rfl ?_
       refine o_unguard 156 rfl rfl ?_
       refine o_mv (v := .int .i64 (Lru.trace l)) rfl rfl ?_
       refine o_unguard 156 rfl rfl ?_
       refine o_pure (p_eq (p := (Lfu.runErr u l)) (q := (Lru.trace l)) rfl rfl) rfl rfl rfl ?_
       refine o_pt (v := .bool ((Lfu.runErr u l) == (Lru.trace l))) rfl rfl rfl ?_
       exact o_sub (Sub.cons rfl (Sub.skip rfl (Sub.skip rfl (Sub.skip rfl (Sub.skip rfl (Sub.skip rfl (Sub.refl _))))))) hk
      ·intro hb42 hk
       refine o_guard_no rfl 156 rfl rfl rfl rfl rfl ?_
       refine o_guard_no rfl 156 rfl rfl rfl rfl rfl ?_
       refine o_guard_no rfl 156 rfl rfl rfl rfl rfl ?_
       refine o_pf (v := .bool false) rfl rfl rfl ?_
       exact o_sub (Sub.cons rfl (Sub.skip rfl (Sub.skip rfl (Sub.skip rfl (Sub.skip rfl (Sub.skip rfl (Sub.refl _))))))) hk
      refine o_mv (v := .bool (((((((((Lfu.check u) == (Lfu.check u)) && (decide (((Lfu.access u key).1) = (⟨0, []⟩ : DUses)))) && (((Lfu.access u key).2.1) == false)) && (((Lfu.access u key).2.2) == 0)) && ((Lfu.accessErr u key) == 3)) && (decide (((Lfu.run u l).1) = ((Lfu.runGo u 0 l).1)))) && (((Lfu.run u l).2) == ((Lfu.runGo u 0 l).2))) && ((Lfu.runErr u l) == (Lru.trace l)))) rfl rfl ?_
      refine o_and (p := 165) 4 (decide ((Lfu.age u) = ag)) ?_ ?_ ?_
      ·intro hb43 hk
       simp only [Bool.and_eq_true, beq_iff_eq, decide_eq_true_eq] at hb43
       refine o_unguard 161 rfl rfl ?_
       refine o_pure (p_load_agg (i := 5) (vs := [.int .i64 ((Lfu.age u).room), .slice a16 ((Lfu.age u).list).length c17]) rfl rfl sh24 rfl rfl) rfl rfl rfl ?_
       refine o_unguard 161 rfl rfl ?_
       refine o_pure (p_load_agg (i := 2) (vs := [.int .i64 ag.room, .slice aag_0 ag.list.length cag_0]) rfl rfl sh24 rfl rfl) rfl rfl rfl ?_
       refine o_unguard 161 rfl rfl ?_
       refine o_call0 (v := .bool (decide ((Lfu.age u) = ag))) rfl (sameUses_ok (Lfu.age u) a16 c17 ag aag_0 cag_0) hf26 (fun w hw => ⟨(rd_own (i := 6) rfl) w hw, (rd_own (i := 0) rfl) w hw⟩) rfl ?_
       refine o_pt (v := .bool (decide ((Lfu.age u) = ag))) rfl rfl rfl ?_
       exact o_sub (Sub.cons rfl (Sub.skip rfl (Sub.skip rfl (Sub.skip rfl (Sub.skip rfl (Sub.skip rfl (Sub.refl _))))))) hk
      ·intro hb43 hk
       refine o_guard_no rfl 161 rfl rfl rfl rfl rfl ?_
       refine o_guard_no rfl 161 rfl rfl rfl rfl rfl ?_
       refine o_guard_no rfl 161 rfl rfl rfl rfl rfl ?_
       refine o_pf (v := .bool false) rfl rfl rfl ?_
       exact o_sub (Sub.cons rfl (Sub.skip rfl (Sub.skip rfl (Sub.skip rfl (Sub.skip rfl (Sub.skip rfl (Sub.refl _))))))) hk
      refine o_mv (v := .bool ((((((((((Lfu.check u) == (Lfu.check u)) && (decide (((Lfu.access u key).1) = (⟨0, []⟩ : DUses)))) && (((Lfu.access u key).2.1) == false)) && (((Lfu.access u key).2.2) == 0)) && ((Lfu.accessErr u key) == 3)) && (decide (((Lfu.run u l).1) = ((Lfu.runGo u 0 l).1)))) && (((Lfu.run u l).2) == ((Lfu.runGo u 0 l).2))) && ((Lfu.runErr u l) == (Lru.trace l))) && (decide ((Lfu.age u) = ag)))) rfl rfl ?_
      refine o_and (p := 170) 4 ((Lfu.check u) == (Lfu.check u)) ?_ ?_ ?_
      ·intro hb44 hk
       simp only [Bool.and_eq_true, beq_iff_eq, decide_eq_true_eq] at hb44
       refine o_unguard 166 rfl rfl ?_
       refine o_mv (v := .int .i64 (Lfu.check u)) rfl rfl ?_
       refine o_unguard 166 rfl rfl ?_
       refine o_mv (v := .int .i64 (Lfu.check u)) rfl rfl ?_
       refine o_unguard 166 rfl rfl ?_
       refine o_pure (p_eq (p := (Lfu.check u)) (q := (Lfu.check u)) rfl rfl) rfl rfl rfl ?_
       refine o_pt (v := .bool ((Lfu.check u) == (Lfu.check u))) rfl rfl rfl ?_
       exact o_sub (Sub.cons rfl (Sub.skip rfl (Sub.skip rfl (Sub.skip rfl (Sub.skip rfl (Sub.skip rfl (Sub.refl _))))))) hk
      ·intro hb44 hk
       refine o_guard_no rfl 166 rfl rfl rfl rfl rfl ?_
       refine o_guard_no rfl 166 rfl rfl rfl rfl rfl ?_
       refine o_guard_no rfl 166 rfl rfl rfl rfl rfl ?_
       refine o_pf (v := .bool false) rfl rfl rfl ?_
       exact o_sub (Sub.cons rfl (Sub.skip rfl (Sub.skip rfl (Sub.skip rfl (Sub.skip rfl (Sub.skip rfl (Sub.refl _))))))) hk
      refine o_mv (v := .bool (((((((((((Lfu.check u) == (Lfu.check u)) && (decide (((Lfu.access u key).1) = (⟨0, []⟩ : DUses)))) && (((Lfu.access u key).2.1) == false)) && (((Lfu.access u key).2.2) == 0)) && ((Lfu.accessErr u key) == 3)) && (decide (((Lfu.run u l).1) = ((Lfu.runGo u 0 l).1)))) && (((Lfu.run u l).2) == ((Lfu.runGo u 0 l).2))) && ((Lfu.runErr u l) == (Lru.trace l))) && (decide ((Lfu.age u) = ag))) && ((Lfu.check u) == (Lfu.check u)))) rfl rfl ?_
      refine o_and (p := 175) 4 ((Lfu.victim u) == 0) ?_ ?_ ?_
      ·intro hb45 hk
       simp only [Bool.and_eq_true, beq_iff_eq, decide_eq_true_eq] at hb45
       refine o_unguard 171 rfl rfl ?_
       refine o_mv (v := .int .i64 (Lfu.victim u)) rfl rfl ?_
       refine o_unguard 171 rfl rfl ?_
       refine o_mv (v := .int .i64 0) rfl rfl ?_
       refine o_unguard 171 rfl rfl ?_
       refine o_pure (p_eq (p := (Lfu.victim u)) (q := 0) rfl rfl) rfl rfl rfl ?_
       refine o_pt (v := .bool ((Lfu.victim u) == 0)) rfl rfl rfl ?_
       exact o_sub (Sub.cons rfl (Sub.skip rfl (Sub.skip rfl (Sub.skip rfl (Sub.skip rfl (Sub.skip rfl (Sub.refl _))))))) hk
      ·intro hb45 hk
       refine o_guard_no rfl 171 rfl rfl rfl rfl rfl ?_
       refine o_guard_no rfl 171 rfl rfl rfl rfl rfl ?_
       refine o_guard_no rfl 171 rfl rfl rfl rfl rfl ?_
       refine o_pf (v := .bool false) rfl rfl rfl ?_
       exact o_sub (Sub.cons rfl (Sub.skip rfl (Sub.skip rfl (Sub.skip rfl (Sub.skip rfl (Sub.skip rfl (Sub.refl _))))))) hk
      refine o_mv (v := .bool ((((((((((((Lfu.check u) == (Lfu.check u)) && (decide (((Lfu.access u key).1) = (⟨0, []⟩ : DUses)))) && (((Lfu.access u key).2.1) == false)) && (((Lfu.access u key).2.2) == 0)) && ((Lfu.accessErr u key) == 3)) && (decide (((Lfu.run u l).1) = ((Lfu.runGo u 0 l).1)))) && (((Lfu.run u l).2) == ((Lfu.runGo u 0 l).2))) && ((Lfu.runErr u l) == (Lru.trace l))) && (decide ((Lfu.age u) = ag))) && ((Lfu.check u) == (Lfu.check u))) && ((Lfu.victim u) == 0))) rfl rfl ?_
      refine o_and (p := 180) 4 ((Lfu.victimErr u) == 5) ?_ ?_ ?_
      ·intro hb46 hk
       simp only [Bool.and_eq_true, beq_iff_eq, decide_eq_true_eq] at hb46
       refine o_unguard 176 rfl rfl ?_
       refine o_mv (v := .int .i64 (Lfu.victimErr u)) rfl rfl ?_
       refine o_unguard 176 rfl rfl ?_
       refine o_mv (v := .int .i64 5) rfl rfl ?_
       refine o_unguard 176 rfl rfl ?_
       refine o_pure (p_eq (p := (Lfu.victimErr u)) (q := 5) rfl rfl) rfl rfl rfl ?_
       refine o_pt (v := .bool ((Lfu.victimErr u) == 5)) rfl rfl rfl ?_
       exact o_sub (Sub.cons rfl (Sub.skip rfl (Sub.skip rfl (Sub.skip rfl (Sub.skip rfl (Sub.skip rfl (Sub.refl _))))))) hk
      ·intro hb46 hk
       refine o_guard_no rfl 176 rfl rfl rfl rfl rfl ?_
       refine o_guard_no rfl 176 rfl rfl rfl rfl rfl ?_
       refine o_guard_no rfl 176 rfl rfl rfl rfl rfl ?_
       refine o_pf (v := .bool false) rfl rfl rfl ?_
       exact o_sub (Sub.cons rfl (Sub.skip rfl (Sub.skip rfl (Sub.skip rfl (Sub.skip rfl (Sub.skip rfl (Sub.refl _))))))) hk
      refine o_pure (p_assign (v := .bool (((((((((((((Lfu.check u) == (Lfu.check u)) && (decide (((Lfu.access u key).1) = (⟨0, []⟩ : DUses)))) && (((Lfu.access u key).2.1) == false)) && (((Lfu.access u key).2.2) == 0)) && ((Lfu.accessErr u key) == 3)) && (decide (((Lfu.run u l).1) = ((Lfu.runGo u 0 l).1)))) && (((Lfu.run u l).2) == ((Lfu.runGo u 0 l).2))) && ((Lfu.runErr u l) == (Lru.trace l))) && (decide ((Lfu.age u) = ag))) && ((Lfu.check u) == (Lfu.check u))) && ((Lfu.victim u) == 0)) && ((Lfu.victimErr u) == 5))) rfl) rfl rfl rfl ?_
      refine o_nil ?_
      refine q_then ?_
      refine c_ret ?_
      have hr0 : ((((((((((((((Lfu.check u) == (Lfu.check u)) && (decide (((Lfu.access u key).1) = (⟨0, []⟩ : DUses)))) && (((Lfu.access u key).2.1) == false)) && (((Lfu.access u key).2.2) == 0)) && ((Lfu.accessErr u key) == 3)) && (decide (((Lfu.run u l).1) = ((Lfu.runGo u 0 l).1)))) && (((Lfu.run u l).2) == ((Lfu.runGo u 0 l).2))) && ((Lfu.runErr u l) == (Lru.trace l))) && (decide ((Lfu.age u) = ag))) && ((Lfu.check u) == (Lfu.check u))) && ((Lfu.victim u) == 0)) && ((Lfu.victimErr u) == 5)) : Bool) = true := by
       rcases Lfu.acc_num u key with ⟨a0, a1, a2⟩ | ⟨a0, a3, a1, a2⟩ | ⟨a0, a3, a1, a2⟩ <;> rcases Lfu.run_cases u l with ⟨b0, b1, b2⟩ | ⟨b0, b3, b1, b2⟩ | ⟨b0, b3, b1, b2⟩ <;> rcases Lfu.vic_cases u with ⟨s0, s1, s2⟩ | ⟨s0, s3, s1, s2⟩ | ⟨s0, s3, s1, s2⟩ <;> first | (exfalso; omega) | (rw [a1, a2, b1, b2, s1, s2]; first | (simp [Lfu.zero, Lfu.age, a0]; done) | (simp [Lfu.zero, Lfu.age, a0, b3]; done) | (have hag := Lfu.age_of hI.1 (hI.2.done (by omega)); rw [hag]; simp [Lfu.zero, Lfu.age, a0, b3]; done))
      refine q_end0 (v := .bool (((((((((((((Lfu.check u) == (Lfu.check u)) && (decide (((Lfu.access u key).1) = (⟨0, []⟩ : DUses)))) && (((Lfu.access u key).2.1) == false)) && (((Lfu.access u key).2.2) == 0)) && ((Lfu.accessErr u key) == 3)) && (decide (((Lfu.run u l).1) = ((Lfu.runGo u 0 l).1)))) && (((Lfu.run u l).2) == ((Lfu.runGo u 0 l).2))) && ((Lfu.runErr u l) == (Lru.trace l))) && (decide ((Lfu.age u) = ag))) && ((Lfu.check u) == (Lfu.check u))) && ((Lfu.victim u) == 0)) && ((Lfu.victimErr u) == 5))) (rt1 rfl (r_tmp rfl)) (i := 12) rfl ?_
      exact (by have hcc := congrArg (fun (y0 : Bool) => (.bool y0 : Value)) hr0; exact hcc)
     ·simp only [beq_eq_false_iff_ne, ne_eq] at hc35
      refine c_region ?_
      refine o_pure (p_fieldAddr (B := B1) (j := 0) (j' := 1) rfl fo24_1 rfl) rfl rfl rfl ?_
      refine o_pure (p_load (i := 11) (v := .slice au_0 u.list.length cu_0) rfl rfl sh22 rfl) rfl rfl rfl ?_
      refine o_call0 (v := .int .i64 ((u.list.getD (Lfu.least u.list) default).key)) rfl (rfleast_ok u.list au_0 cu_0 (by omega)) hf23 (fun w hw => (rd_base (i := 12) rfl hu_0) w hw) rfl ?_
      refine o_pure (p_assign (v := .int .i64 ((u.list.getD (Lfu.least u.list) default).key)) rfl) rfl rfl rfl ?_
      refine o_nil ?_
      refine q_then ?_
      refine c_seq ?_
      refine c_region ?_
      refine o_call0 (v := .bool true) rfl (lfuBegun_ok ) hf24 (fun _ _ => trivial) rfl ?_
      refine o_mv (v := .bool true) rfl rfl ?_
      refine o_unguard 120 rfl rfl ?_
      refine o_pure (p_load_agg (i := 11) (vs := [.int .i64 u.room, .slice au_0 u.list.length cu_0]) rfl rfl sh24 rfl rfl) rfl rfl rfl ?_
      refine o_unguard 120 rfl rfl ?_
      refine o_call0 (v := .int .i64 (Lfu.check u)) rfl (fcheck_ok u au_0 cu_0) hf25 (fun w hw => (rd_base (i := 12) rfl hu_0) w hw) rfl ?_
      refine o_unguard 120 rfl rfl ?_
      refine o_mv (v := .int .i64 (Lfu.check u)) rfl rfl ?_
      refine o_unguard 120 rfl rfl ?_
      refine o_pure (p_eq (p := (Lfu.check u)) (q := (Lfu.check u)) rfl rfl) rfl rfl rfl ?_
      refine o_pt (v := .bool ((Lfu.check u) == (Lfu.check u))) rfl rfl rfl ?_
      refine o_mv (v := .bool ((Lfu.check u) == (Lfu.check u))) rfl rfl ?_
      refine o_and (p := 130) 4 (decide (((Lfu.access u key).1) = (⟨0, []⟩ : DUses))) ?_ ?_ ?_
      ·intro hb47 hk
       simp only [beq_iff_eq] at hb47
       refine o_unguard 126 rfl rfl ?_
       refine o_pure (p_load_agg (i := 9) (vs := [.int .i64 (((Lfu.access u key).1).room), .slice a4 (((Lfu.access u key).1).list).length c5]) rfl rfl sh24 rfl rfl) rfl rfl rfl ?_
       refine o_unguard 126 rfl rfl ?_
       refine o_pure (p_load_agg (i := 4) (vs := [.int .i64 0, .slice none 0 0]) rfl rfl sh24 rfl rfl) rfl rfl rfl ?_
       refine o_unguard 126 rfl rfl ?_
       refine o_call0 (v := .bool (decide (((Lfu.access u key).1) = (⟨0, []⟩ : DUses)))) rfl (sameUses_ok ((Lfu.access u key).1) a4 c5 (⟨0, []⟩ : DUses) none 0) hf26 (fun w hw => ⟨(rd_own (i := 10) rfl) w hw, rd_nil w hw⟩) rfl ?_
       refine o_pt (v := .bool (decide (((Lfu.access u key).1) = (⟨0, []⟩ : DUses)))) rfl rfl rfl ?_
       exact o_sub (Sub.cons rfl (Sub.skip rfl (Sub.skip rfl (Sub.skip rfl (Sub.skip rfl (Sub.skip rfl (Sub.refl _))))))) hk
      ·intro hb47 hk
       refine o_guard_no rfl 126 rfl rfl rfl rfl rfl ?_
       refine o_guard_no rfl 126 rfl rfl rfl rfl rfl ?_
       refine o_guard_no rfl 126 rfl rfl rfl rfl rfl ?_
       refine o_pf (v := .bool false) rfl rfl rfl ?_
       exact o_sub (Sub.cons rfl (Sub.skip rfl (Sub.skip rfl (Sub.skip rfl (Sub.skip rfl (Sub.skip rfl (Sub.refl _))))))) hk
      refine o_mv (v := .bool (((Lfu.check u) == (Lfu.check u)) && (decide (((Lfu.access u key).1) = (⟨0, []⟩ : DUses))))) rfl rfl ?_
      refine o_and (p := 135) 4 (((Lfu.access u key).2.1) == false) ?_ ?_ ?_
      ·intro hb48 hk
       simp only [Bool.and_eq_true, beq_iff_eq, decide_eq_true_eq] at hb48
       refine o_unguard 131 rfl rfl ?_
       refine o_mv (v := .bool ((Lfu.access u key).2.1)) rfl rfl ?_
       refine o_unguard 131 rfl rfl ?_
       refine o_mv (v := .bool false) rfl rfl ?_
       refine o_unguard 131 rfl rfl ?_
       refine o_pure (p_eqBool (b := ((Lfu.access u key).2.1)) (c := false) rfl rfl Try.underlying4) rfl rfl rfl ?_
       refine o_pt (v := .bool (((Lfu.access u key).2.1) == false)) rfl rfl rfl ?_
       exact o_sub (Sub.cons rfl (Sub.skip rfl (Sub.skip rfl (Sub.skip rfl (Sub.skip rfl (Sub.skip rfl (Sub.refl _))))))) hk
      ·intro hb48 hk
       refine o_guard_no rfl 131 rfl rfl rfl rfl rfl ?_
       refine o_guard_no rfl 131 rfl rfl rfl rfl rfl ?_
       refine o_guard_no rfl 131 rfl rfl rfl rfl rfl ?_
       refine o_pf (v := .bool false) rfl rfl rfl ?_
       exact o_sub (Sub.cons rfl (Sub.skip rfl (Sub.skip rfl (Sub.skip rfl (Sub.skip rfl (Sub.skip rfl (Sub.refl _))))))) hk
      refine o_mv (v := .bool ((((Lfu.check u) == (Lfu.check u)) && (decide (((Lfu.access u key).1) = (⟨0, []⟩ : DUses)))) && (((Lfu.access u key).2.1) == false))) rfl rfl ?_
      refine o_and (p := 140) 4 (((Lfu.access u key).2.2) == 0) ?_ ?_ ?_
      ·intro hb49 hk
       simp only [Bool.and_eq_true, beq_iff_eq, decide_eq_true_eq] at hb49
       refine o_unguard 136 rfl rfl ?_
       refine o_mv (v := .int .i64 ((Lfu.access u key).2.2)) rfl rfl ?_
       refine o_unguard 136 rfl rfl ?_
       refine o_mv (v := .int .i64 0) rfl rfl ?_
       refine o_unguard 136 rfl rfl ?_
       refine o_pure (p_eq (p := ((Lfu.access u key).2.2)) (q := 0) rfl rfl) rfl rfl rfl ?_
       refine o_pt (v := .bool (((Lfu.access u key).2.2) == 0)) rfl rfl rfl ?_
       exact o_sub (Sub.cons rfl (Sub.skip rfl (Sub.skip rfl (Sub.skip rfl (Sub.skip rfl (Sub.skip rfl (Sub.refl _))))))) hk
      ·intro hb49 hk
       refine o_guard_no rfl 136 rfl rfl rfl rfl rfl ?_
       refine o_guard_no rfl 136 rfl rfl rfl rfl rfl ?_
       refine o_guard_no rfl 136 rfl rfl rfl rfl rfl ?_
       refine o_pf (v := .bool false) rfl rfl rfl ?_
       exact o_sub (Sub.cons rfl (Sub.skip rfl (Sub.skip rfl (Sub.skip rfl (Sub.skip rfl (Sub.skip rfl (Sub.refl _))))))) hk
      refine o_mv (v := .bool (((((Lfu.check u) == (Lfu.check u)) && (decide (((Lfu.access u key).1) = (⟨0, []⟩ : DUses)))) && (((Lfu.access u key).2.1) == false)) && (((Lfu.access u key).2.2) == 0))) rfl rfl ?_
      refine o_and (p := 145) 4 ((Lfu.accessErr u key) == 3) ?_ ?_ ?_
      ·intro hb50 hk
       simp only [Bool.and_eq_true, beq_iff_eq, decide_eq_true_eq] at hb50
       refine o_unguard 141 rfl rfl ?_
       refine o_mv (v := .int .i64 (Lfu.accessErr u key)) rfl rfl ?_
       refine o_unguard 141 rfl rfl ?_
       refine o_mv (v := .int .i64 3) rfl rfl ?_
       refine o_unguard 141 rfl rfl ?_
       refine o_pure (p_eq (p := (Lfu.accessErr u key)) (q := 3) rfl rfl) rfl rfl rfl ?_
       refine o_pt (v := .bool ((Lfu.accessErr u key) == 3)) rfl rfl rfl ?_
       exact o_sub (Sub.cons rfl (Sub.skip rfl (Sub.skip rfl (Sub.skip rfl (Sub.skip rfl (Sub.skip rfl (Sub.refl _))))))) hk
      ·intro hb50 hk
       refine o_guard_no rfl 141 rfl rfl rfl rfl rfl ?_
       refine o_guard_no rfl 141 rfl rfl rfl rfl rfl ?_
       refine o_guard_no rfl 141 rfl rfl rfl rfl rfl ?_
       refine o_pf (v := .bool false) rfl rfl rfl ?_
       exact o_sub (Sub.cons rfl (Sub.skip rfl (Sub.skip rfl (Sub.skip rfl (Sub.skip rfl (Sub.skip rfl (Sub.refl _))))))) hk
      refine o_mv (v := .bool ((((((Lfu.check u) == (Lfu.check u)) && (decide (((Lfu.access u key).1) = (⟨0, []⟩ : DUses)))) && (((Lfu.access u key).2.1) == false)) && (((Lfu.access u key).2.2) == 0)) && ((Lfu.accessErr u key) == 3))) rfl rfl ?_
      refine o_and (p := 150) 4 (decide (((Lfu.run u l).1) = ((Lfu.runGo u 0 l).1))) ?_ ?_ ?_
      ·intro hb51 hk
       simp only [Bool.and_eq_true, beq_iff_eq, decide_eq_true_eq] at hb51
       refine o_unguard 146 rfl rfl ?_
       refine o_pure (p_load_agg (i := 7) (vs := [.int .i64 (((Lfu.run u l).1).room), .slice a10 (((Lfu.run u l).1).list).length c11]) rfl rfl sh24 rfl rfl) rfl rfl rfl ?_
       refine o_unguard 146 rfl rfl ?_
       refine o_pure (p_load_agg (i := 3) (vs := [.int .i64 (((Lfu.runGo u 0 l).1).room), .slice a29 (((Lfu.runGo u 0 l).1).list).length c30]) rfl rfl sh24 rfl rfl) rfl rfl rfl ?_
       refine o_unguard 146 rfl rfl ?_
       refine o_call0 (v := .bool (decide (((Lfu.run u l).1) = ((Lfu.runGo u 0 l).1)))) rfl (sameUses_ok ((Lfu.run u l).1) a10 c11 ((Lfu.runGo u 0 l).1) a29 c30) hf26 (fun w hw => ⟨(rd_own (i := 8) rfl) w hw, (rd_loose (i := 1) rfl (fun hφ => by obtain ⟨h1, h2, h3⟩ := hφ; intro w hw; have g1 : a29 = au_0 := h1; have g2 : c30 = cu_0 := h2; have g3 : ((Lfu.runGo u 0 l).1).list = u.list := h3; rw [g1, g2, g3]; exact (rd_base (i := 12) rfl hu_0) w hw)) w hw⟩) rfl ?_
       refine o_pt (v := .bool (decide (((Lfu.run u l).1) = ((Lfu.runGo u 0 l).1)))) rfl rfl rfl ?_
       exact o_sub (Sub.cons rfl (Sub.skip rfl (Sub.skip rfl (Sub.skip rfl (Sub.skip rfl (Sub.skip rfl (Sub.refl _))))))) hk
      ·intro hb51 hk
       refine o_guard_no rfl 146 rfl rfl rfl rfl rfl ?_
       refine o_guard_no rfl 146 rfl rfl rfl rfl rfl ?_
       refine o_guard_no rfl 146 rfl rfl rfl rfl rfl ?_
       refine o_pf (v := .bool false) rfl rfl rfl ?_
       exact o_sub (Sub.cons rfl (Sub.skip rfl (Sub.skip rfl (Sub.skip rfl (Sub.skip rfl (Sub.skip rfl (Sub.refl _))))))) hk
      refine o_mv (v := .bool (((((((Lfu.check u) == (Lfu.check u)) && (decide (((Lfu.access u key).1) = (⟨0, []⟩ : DUses)))) && (((Lfu.access u key).2.1) == false)) && (((Lfu.access u key).2.2) == 0)) && ((Lfu.accessErr u key) == 3)) && (decide (((Lfu.run u l).1) = ((Lfu.runGo u 0 l).1))))) rfl rfl ?_
      refine o_and (p := 155) 4 (((Lfu.run u l).2) == ((Lfu.runGo u 0 l).2)) ?_ ?_ ?_
      ·intro hb52 hk
       simp only [Bool.and_eq_true, beq_iff_eq, decide_eq_true_eq] at hb52
       refine o_unguard 151 rfl rfl ?_
       refine o_mv (v := .int .i64 ((Lfu.run u l).2)) rfl rfl ?_
       refine o_unguard 151 rfl rfl ?_
       refine o_mv (v := .int .i64 ((Lfu.runGo u 0 l).2)) rfl rfl ?_
       refine o_unguard 151 rfl rfl ?_
       refine o_pure (p_eq (p := ((Lfu.run u l).2)) (q := ((Lfu.runGo u 0 l).2)) rfl rfl) rfl rfl rfl ?_
       refine o_pt (v := .bool (((Lfu.run u l).2) == ((Lfu.runGo u 0 l).2))) rfl rfl rfl ?_
       exact o_sub (Sub.cons rfl (Sub.skip rfl (Sub.skip rfl (Sub.skip rfl (Sub.skip rfl (Sub.skip rfl (Sub.refl _))))))) hk
      ·intro hb52 hk
       refine o_guard_no rfl 151 rfl rfl rfl rfl rfl ?_
       refine o_guard_no rfl 151 rfl rfl rfl rfl rfl ?_
       refine o_guard_no rfl 151 rfl rfl rfl rfl rfl ?_
       refine o_pf (v := .bool false) rfl rfl rfl ?_
       exact o_sub (Sub.cons rfl (Sub.skip rfl (Sub.skip rfl (Sub.skip rfl (Sub.skip rfl (Sub.skip rfl (Sub.refl _))))))) hk
      refine o_mv (v := .bool ((((((((Lfu.check u) == (Lfu.check u)) && (decide (((Lfu.access u key).1) = (⟨0, []⟩ : DUses)))) && (((Lfu.access u key).2.1) == false)) && (((Lfu.access u key).2.2) == 0)) && ((Lfu.accessErr u key) == 3)) && (decide (((Lfu.run u l).1) = ((Lfu.runGo u 0 l).1)))) && (((Lfu.run u l).2) == ((Lfu.runGo u 0 l).2)))) rfl rfl ?_
      refine o_and (p := 160) 4 ((Lfu.runErr u l) == (Lru.trace l)) ?_ ?_ ?_
      ·intro hb53 hk
       simp only [Bool.and_eq_true, beq_iff_eq, decide_eq_true_eq] at hb53
       refine o_unguard 156 rfl rfl ?_
       refine o_mv (v := .int .i64 (Lfu.runErr u l)) rfl rfl ?_
       refine o_unguard 156 rfl rfl ?_
       refine o_mv (v := .int .i64 (Lru.trace l)) rfl rfl ?_
       refine o_unguard 156 rfl rfl ?_
       refine o_pure (p_eq (p := (Lfu.runErr u l)) (q := (Lru.trace l)) rfl rfl) rfl rfl rfl ?_
       refine o_pt (v := .bool ((Lfu.runErr u l) == (Lru.trace l))) rfl rfl rfl ?_
       exact o_sub (Sub.cons rfl (Sub.skip rfl (Sub.skip rfl (Sub.skip rfl (Sub.skip rfl (Sub.skip rfl (Sub.refl _))))))) hk
      ·intro hb53 hk
       refine o_guard_no rfl 156 rfl rfl rfl rfl rfl ?_
       refine o_guard_no rfl 156 rfl rfl rfl rfl rfl ?_
       refine o_guard_no rfl 156 rfl rfl rfl rfl rfl ?_
       refine o_pf (v := .bool false) rfl rfl rfl ?_
       exact o_sub (Sub.cons rfl (Sub.skip rfl (Sub.skip rfl (Sub.skip rfl (Sub.skip rfl (Sub.skip rfl (Sub.refl _))))))) hk
      refine o_mv (v := .bool (((((((((Lfu.check u) == (Lfu.check u)) && (decide (((Lfu.access u key).1) = (⟨0, []⟩ : DUses)))) && (((Lfu.access u key).2.1) == false)) && (((Lfu.access u key).2.2) == 0)) && ((Lfu.accessErr u key) == 3)) && (decide (((Lfu.run u l).1) = ((Lfu.runGo u 0 l).1)))) && (((Lfu.run u l).2) == ((Lfu.runGo u 0 l).2))) && ((Lfu.runErr u l) == (Lru.trace l)))) rfl rfl ?_
      refine o_and (p := 165) 4 (decide ((Lfu.age u) = ag)) ?_ ?_ ?_
      ·intro hb54 hk
       simp only [Bool.and_eq_true, beq_iff_eq, decide_eq_true_eq] at hb54
       refine o_unguard 161 rfl rfl ?_
       refine o_pure (p_load_agg (i := 5) (vs := [.int .i64 ((Lfu.age u).room), .slice a16 ((Lfu.age u).list).length c17]) rfl rfl sh24 rfl rfl) rfl rfl rfl ?_
       refine o_unguard 161 rfl rfl ?_
       refine o_pure (p_load_agg (i := 2) (vs := [.int .i64 ag.room, .slice aag_0 ag.list.length cag_0]) rfl rfl sh24 rfl rfl) rfl rfl rfl ?_
       refine o_unguard 161 rfl rfl ?_
       refine o_call0 (v := .bool (decide ((Lfu.age u) = ag))) rfl (sameUses_ok (Lfu.age u) a16 c17 ag aag_0 cag_0) hf26 (fun w hw => ⟨(rd_own (i := 6) rfl) w hw, (rd_own (i := 0) rfl) w hw⟩) rfl ?_
       refine o_pt (v := .bool (decide ((Lfu.age u) = ag))) rfl rfl rfl ?_
       exact o_sub (Sub.cons rfl (Sub.skip rfl (Sub.skip rfl (Sub.skip rfl (Sub.skip rfl (Sub.skip rfl (Sub.refl _))))))) hk
      ·intro hb54 hk
       refine o_guard_no rfl 161 rfl rfl rfl rfl rfl ?_
       refine o_guard_no rfl 161 rfl rfl rfl rfl rfl ?_
       refine o_guard_no rfl 161 rfl rfl rfl rfl rfl ?_
       refine o_pf (v := .bool false) rfl rfl rfl ?_
       exact o_sub (Sub.cons rfl (Sub.skip rfl (Sub.skip rfl (Sub.skip rfl (Sub.skip rfl (Sub.skip rfl (Sub.refl _))))))) hk
      refine o_mv (v := .bool ((((((((((Lfu.check u) == (Lfu.check u)) && (decide (((Lfu.access u key).1) = (⟨0, []⟩ : DUses)))) && (((Lfu.access u key).2.1) == false)) && (((Lfu.access u key).2.2) == 0)) && ((Lfu.accessErr u key) == 3)) && (decide (((Lfu.run u l).1) = ((Lfu.runGo u 0 l).1)))) && (((Lfu.run u l).2) == ((Lfu.runGo u 0 l).2))) && ((Lfu.runErr u l) == (Lru.trace l))) && (decide ((Lfu.age u) = ag)))) rfl rfl ?_
      refine o_and (p := 170) 4 ((Lfu.check u) == (Lfu.check u)) ?_ ?_ ?_
      ·intro hb55 hk
       simp only [Bool.and_eq_true, beq_iff_eq, decide_eq_true_eq] at hb55
       refine o_unguard 166 rfl rfl ?_
       refine o_mv (v := .int .i64 (Lfu.check u)) rfl rfl ?_
       refine o_unguard 166 rfl rfl ?_
       refine o_mv (v := .int .i64 (Lfu.check u)) rfl rfl ?_
       refine o_unguard 166 rfl rfl ?_
       refine o_pure (p_eq (p := (Lfu.check u)) (q := (Lfu.check u)) rfl rfl) rfl rfl rfl ?_
       refine o_pt (v := .bool ((Lfu.check u) == (Lfu.check u))) rfl rfl rfl ?_
       exact o_sub (Sub.cons rfl (Sub.skip rfl (Sub.skip rfl (Sub.skip rfl (Sub.skip rfl (Sub.skip rfl (Sub.refl _))))))) hk
      ·intro hb55 hk
       refine o_guard_no rfl 166 rfl rfl rfl rfl rfl ?_
       refine o_guard_no rfl 166 rfl rfl rfl rfl rfl ?_
       refine o_guard_no rfl 166 rfl rfl rfl rfl rfl ?_
       refine o_pf (v := .bool false) rfl rfl rfl ?_
       exact o_sub (Sub.cons rfl (Sub.skip rfl (Sub.skip rfl (Sub.skip rfl (Sub.skip rfl (Sub.skip rfl (Sub.refl _))))))) hk
      refine o_mv (v := .bool (((((((((((Lfu.check u) == (Lfu.check u)) && (decide (((Lfu.access u key).1) = (⟨0, []⟩ : DUses)))) && (((Lfu.access u key).2.1) == false)) && (((Lfu.access u key).2.2) == 0)) && ((Lfu.accessErr u key) == 3)) && (decide (((Lfu.run u l).1) = ((Lfu.runGo u 0 l).1)))) && (((Lfu.run u l).2) == ((Lfu.runGo u 0 l).2))) && ((Lfu.runErr u l) == (Lru.trace l))) && (decide ((Lfu.age u) = ag))) && ((Lfu.check u) == (Lfu.check u)))) rfl rfl ?_
      refine o_and (p := 175) 4 ((Lfu.victim u) == ((u.list.getD (Lfu.least u.list) default).key)) ?_ ?_ ?_
      ·intro hb56 hk
       simp only [Bool.and_eq_true, beq_iff_eq, decide_eq_true_eq] at hb56
       refine o_unguard 171 rfl rfl ?_
       refine o_mv (v := .int .i64 (Lfu.victim u)) rfl rfl ?_
       refine o_unguard 171 rfl rfl ?_
       refine o_mv (v := .int .i64 ((u.list.getD (Lfu.least u.list) default).key)) rfl rfl ?_
       refine o_unguard 171 rfl rfl ?_
       refine o_pure (p_eq (p := (Lfu.victim u)) (q := ((u.list.getD (Lfu.least u.list) default).key)) rfl rfl) rfl rfl rfl ?_
       refine o_pt (v := .bool ((Lfu.victim u) == ((u.list.getD (Lfu.least u.list) default).key))) rfl rfl rfl ?_
       exact o_sub (Sub.cons rfl (Sub.skip rfl (Sub.skip rfl (Sub.skip rfl (Sub.skip rfl (Sub.skip rfl (Sub.refl _))))))) hk
      ·intro hb56 hk
       refine o_guard_no rfl 171 rfl rfl rfl rfl rfl ?_
       refine o_guard_no rfl 171 rfl rfl rfl rfl rfl ?_
       refine o_guard_no rfl 171 rfl rfl rfl rfl rfl ?_
       refine o_pf (v := .bool false) rfl rfl rfl ?_
       exact o_sub (Sub.cons rfl (Sub.skip rfl (Sub.skip rfl (Sub.skip rfl (Sub.skip rfl (Sub.skip rfl (Sub.refl _))))))) hk
      refine o_mv (v := .bool ((((((((((((Lfu.check u) == (Lfu.check u)) && (decide (((Lfu.access u key).1) = (⟨0, []⟩ : DUses)))) && (((Lfu.access u key).2.1) == false)) && (((Lfu.access u key).2.2) == 0)) && ((Lfu.accessErr u key) == 3)) && (decide (((Lfu.run u l).1) = ((Lfu.runGo u 0 l).1)))) && (((Lfu.run u l).2) == ((Lfu.runGo u 0 l).2))) && ((Lfu.runErr u l) == (Lru.trace l))) && (decide ((Lfu.age u) = ag))) && ((Lfu.check u) == (Lfu.check u))) && ((Lfu.victim u) == ((u.list.getD (Lfu.least u.list) default).key)))) rfl rfl ?_
      refine o_and (p := 180) 4 ((Lfu.victimErr u) == (Lfu.check u)) ?_ ?_ ?_
      ·intro hb57 hk
       simp only [Bool.and_eq_true, beq_iff_eq, decide_eq_true_eq] at hb57
       refine o_unguard 176 rfl rfl ?_
       refine o_mv (v := .int .i64 (Lfu.victimErr u)) rfl rfl ?_
       refine o_unguard 176 rfl rfl ?_
       refine o_mv (v := .int .i64 (Lfu.check u)) rfl rfl ?_
       refine o_unguard 176 rfl rfl ?_
       refine o_pure (p_eq (p := (Lfu.victimErr u)) (q := (Lfu.check u)) rfl rfl) rfl rfl rfl ?_
       refine o_pt (v := .bool ((Lfu.victimErr u) == (Lfu.check u))) rfl rfl rfl ?_
       exact o_sub (Sub.cons rfl (Sub.skip rfl (Sub.skip rfl (Sub.skip rfl (Sub.skip rfl (Sub.skip rfl (Sub.refl _))))))) hk
      ·intro hb57 hk
       refine o_guard_no rfl 176 rfl rfl rfl rfl rfl ?_
       refine o_guard_no rfl 176 rfl rfl rfl rfl rfl ?_
       refine o_guard_no rfl 176 rfl rfl rfl rfl rfl ?_
       refine o_pf (v := .bool false) rfl rfl rfl ?_
       exact o_sub (Sub.cons rfl (Sub.skip rfl (Sub.skip rfl (Sub.skip rfl (Sub.skip rfl (Sub.skip rfl (Sub.refl _))))))) hk
      refine o_pure (p_assign (v := .bool (((((((((((((Lfu.check u) == (Lfu.check u)) && (decide (((Lfu.access u key).1) = (⟨0, []⟩ : DUses)))) && (((Lfu.access u key).2.1) == false)) && (((Lfu.access u key).2.2) == 0)) && ((Lfu.accessErr u key) == 3)) && (decide (((Lfu.run u l).1) = ((Lfu.runGo u 0 l).1)))) && (((Lfu.run u l).2) == ((Lfu.runGo u 0 l).2))) && ((Lfu.runErr u l) == (Lru.trace l))) && (decide ((Lfu.age u) = ag))) && ((Lfu.check u) == (Lfu.check u))) && ((Lfu.victim u) == ((u.list.getD (Lfu.least u.list) default).key))) && ((Lfu.victimErr u) == (Lfu.check u)))) rfl) rfl rfl rfl ?_
      refine o_nil ?_
      refine q_then ?_
      refine c_ret ?_
      have hr0 : ((((((((((((((Lfu.check u) == (Lfu.check u)) && (decide (((Lfu.access u key).1) = (⟨0, []⟩ : DUses)))) && (((Lfu.access u key).2.1) == false)) && (((Lfu.access u key).2.2) == 0)) && ((Lfu.accessErr u key) == 3)) && (decide (((Lfu.run u l).1) = ((Lfu.runGo u 0 l).1)))) && (((Lfu.run u l).2) == ((Lfu.runGo u 0 l).2))) && ((Lfu.runErr u l) == (Lru.trace l))) && (decide ((Lfu.age u) = ag))) && ((Lfu.check u) == (Lfu.check u))) && ((Lfu.victim u) == ((u.list.getD (Lfu.least u.list) default).key))) && ((Lfu.victimErr u) == (Lfu.check u))) : Bool) = true := by
       rcases Lfu.acc_num u key with ⟨a0, a1, a2⟩ | ⟨a0, a3, a1, a2⟩ | ⟨a0, a3, a1, a2⟩ <;> rcases Lfu.run_cases u l with ⟨b0, b1, b2⟩ | ⟨b0, b3, b1, b2⟩ | ⟨b0, b3, b1, b2⟩ <;> rcases Lfu.vic_cases u with ⟨s0, s1, s2⟩ | ⟨s0, s3, s1, s2⟩ | ⟨s0, s3, s1, s2⟩ <;> first | (exfalso; omega) | (rw [a1, a2, b1, b2, s1, s2]; first | (simp [Lfu.zero, Lfu.age, a0]; done) | (simp [Lfu.zero, Lfu.age, a0, b3]; done) | (have hag := Lfu.age_of hI.1 (hI.2.done (by omega)); rw [hag]; simp [Lfu.zero, Lfu.age, a0, b3]; done))
      refine q_end0 (v := .bool (((((((((((((Lfu.check u) == (Lfu.check u)) && (decide (((Lfu.access u key).1) = (⟨0, []⟩ : DUses)))) && (((Lfu.access u key).2.1) == false)) && (((Lfu.access u key).2.2) == 0)) && ((Lfu.accessErr u key) == 3)) && (decide (((Lfu.run u l).1) = ((Lfu.runGo u 0 l).1)))) && (((Lfu.run u l).2) == ((Lfu.runGo u 0 l).2))) && ((Lfu.runErr u l) == (Lru.trace l))) && (decide ((Lfu.age u) = ag))) && ((Lfu.check u) == (Lfu.check u))) && ((Lfu.victim u) == ((u.list.getD (Lfu.least u.list) default).key))) && ((Lfu.victimErr u) == (Lfu.check u)))) (rt1 rfl (r_tmp rfl)) (i := 12) rfl ?_
      exact (by have hcc := congrArg (fun (y0 : Bool) => (.bool y0 : Value)) hr0; exact hcc)
   ·simp only [beq_eq_false_iff_ne, ne_eq] at hc26
    refine c_skip ?_
    refine q_then ?_
    refine c_seq ?_
    refine c_held hmix [box B21 [.int .i64 0, .slice none 0 0] 24, box B20 [.int .i64 0, .slice none 0 0] 24, box B19 [.int .i64 ((Lfu.age u).room), .slice a16 ((Lfu.age u).list).length c17] 24, own tUse S14 a16 c17 ((Lfu.age u).list), box B13 [.int .i64 (((Lfu.run u l).1).room), .slice a10 (((Lfu.run u l).1).list).length c11] 24, own tUse S8 a10 c11 (((Lfu.run u l).1).list), box B7 [.int .i64 (((Lfu.access u key).1).room), .slice a4 (((Lfu.access u key).1).list).length c5] 24, own tUse S2 a4 c5 (((Lfu.access u key).1).list), box B1 [.int .i64 u.room, .slice au_0 u.list.length cu_0] 24, base w0] rfl rfl ?_
    refine h_take (i := 0) (ls := #[true, false, false, false, false, false, false, false]) rfl (by kernel_rfl) (by kernel_rfl) (by kernel_rfl) (fun _ _ _ h => h) (p_fieldAddr (B := B1) (j := 0) (j' := 0) rfl fo24_0 rfl) rfl rfl rfl (fun _ hw => HeapIs.drop hw (List.Sublist.cons _ (List.Sublist.cons_cons _ (List.Sublist.cons_cons _ (List.Sublist.cons_cons _ (List.Sublist.cons_cons _ (List.Sublist.cons_cons _ (List.Sublist.cons_cons _ (List.Sublist.cons_cons _ (List.Sublist.cons_cons _ (List.Sublist.cons_cons _ (List.Sublist.cons_cons _ (List.Sublist.slnil))))))))))))) rfl ?_
    refine h_take (i := 1) (ls := #[true, true, false, false, false, false, false, false]) rfl (by kernel_rfl) (by kernel_rfl) (by kernel_rfl) (fun _ _ _ h => h) (p_load (i := 8) (v := .int .i64 u.room) rfl rfl sh3 rfl) rfl rfl rfl (fun _ hw => HeapIs.drop hw (List.Sublist.cons _ (List.Sublist.cons_cons _ (List.Sublist.cons_cons _ (List.Sublist.cons_cons _ (List.Sublist.cons_cons _ (List.Sublist.cons_cons _ (List.Sublist.cons_cons _ (List.Sublist.cons_cons _ (List.Sublist.cons_cons _ (List.Sublist.cons_cons _ (List.Sublist.cons_cons _ (List.Sublist.slnil))))))))))))) rfl ?_
    refine h_take (i := 3) (ls := #[true, true, false, true, false, false, false, false]) rfl (by kernel_rfl) (by kernel_rfl) (by kernel_rfl) (fun _ _ _ h => h) (p_fieldAddr (B := B1) (j := 0) (j' := 1) rfl fo24_1 rfl) rfl rfl rfl (fun _ hw => HeapIs.drop hw (List.Sublist.cons _ (List.Sublist.cons_cons _ (List.Sublist.cons_cons _ (List.Sublist.cons_cons _ (List.Sublist.cons_cons _ (List.Sublist.cons_cons _ (List.Sublist.cons_cons _ (List.Sublist.cons_cons _ (List.Sublist.cons_cons _ (List.Sublist.cons_cons _ (List.Sublist.cons_cons _ (List.Sublist.slnil))))))))))))) rfl ?_
    refine h_take (i := 4) (ls := #[true, true, false, true, true, false, false, false]) rfl (by kernel_rfl) (by kernel_rfl) (by kernel_rfl) (fun _ _ _ h => h) (p_load (i := 8) (v := .slice au_0 u.list.length cu_0) rfl rfl sh22 rfl) rfl rfl rfl (fun _ hw => HeapIs.drop hw (List.Sublist.cons _ (List.Sublist.cons_cons _ (List.Sublist.cons_cons _ (List.Sublist.cons_cons _ (List.Sublist.cons_cons _ (List.Sublist.cons_cons _ (List.Sublist.cons_cons _ (List.Sublist.cons_cons _ (List.Sublist.cons_cons _ (List.Sublist.cons_cons _ (List.Sublist.cons_cons _ (List.Sublist.slnil))))))))))))) rfl ?_
    refine h_one (i := 2) (ls := #[true, true, true, true, true, false, false, false]) (by kernel_rfl) rfl rfl ?_
    refine o_buildSlice (m := 0) (T := tUse) (L := []) (vs := []) rfl rfl rfl rfl Try.underlying22 sz42 (by decide) ze42 rfl (by decide) rfl (fun S58_2 a58_2 => ?_)
    refine o_nil ?_
    refine h_next (fun _ hw => HeapIs.drop hw (List.Sublist.cons _ (List.Sublist.cons _ (List.Sublist.cons_cons _ (List.Sublist.cons_cons _ (List.Sublist.cons_cons _ (List.Sublist.cons_cons _ (List.Sublist.cons_cons _ (List.Sublist.cons_cons _ (List.Sublist.cons_cons _ (List.Sublist.cons_cons _ (List.Sublist.cons_cons _ (List.Sublist.cons_cons _ (List.Sublist.slnil)))))))))))))) ?_
    refine h_one (i := 5) (ls := #[true, true, true, true, true, true, false, false]) (by kernel_rfl) rfl rfl ?_
    refine o_append (i := 0) (L := []) (M := u.list) (T := tUse) rfl rfl rfl (rd_base (i := 11) rfl hu_0) Try.underlying22 Try.underlying22 (by intro k h; cases h) el42 (by intro z; simp [tUse, one1]) (by decide) (by first | omega | (simp only [List.length_cons, List.length_nil]; omega) | (simp only [List.length_append, List.length_cons, List.length_nil, List.length_take, List.length_drop]; omega)) rfl (fun a58_5 c58_5 S58_5 => ?_)
    refine o_nil ?_
    refine h_next (fun _ hw => HeapIs.drop hw (List.Sublist.cons _ (List.Sublist.cons _ (List.Sublist.cons_cons _ (List.Sublist.cons_cons _ (List.Sublist.cons_cons _ (List.Sublist.cons_cons _ (List.Sublist.cons_cons _ (List.Sublist.cons_cons _ (List.Sublist.cons_cons _ (List.Sublist.cons_cons _ (List.Sublist.cons_cons _ (List.Sublist.cons_cons _ (List.Sublist.slnil)))))))))))))) ?_
    refine h_take (i := 6) (ls := #[true, true, true, true, true, true, true, false]) rfl (by kernel_rfl) (by kernel_rfl) (by kernel_rfl) (fun _ _ _ h => h) (p_build (cells := [.int .i64 u.room, .slice a58_5 u.list.length c58_5]) fp24 ze24 rfl rfl) rfl rfl rfl (fun _ hw => HeapIs.drop hw (List.Sublist.cons _ (List.Sublist.cons _ (List.Sublist.cons_cons _ (List.Sublist.cons_cons _ (List.Sublist.cons_cons _ (List.Sublist.cons_cons _ (List.Sublist.cons_cons _ (List.Sublist.cons_cons _ (List.Sublist.cons_cons _ (List.Sublist.cons_cons _ (List.Sublist.cons_cons _ (List.Sublist.cons_cons _ (List.Sublist.slnil)))))))))))))) rfl ?_
    refine h_one (i := 7) (ls := #[true, true, true, true, true, true, true, true]) (by kernel_rfl) rfl rfl ?_
    refine o_storeN (i := 1) (vs := [.int .i64 u.room, .slice a58_5 u.list.length c58_5]) (cs' := [.int .i64 u.room, .slice a58_5 u.list.length c58_5]) rfl rfl rfl sz24 rfl rfl rfl rfl ?_
    refine o_nil ?_
    refine h_next (fun _ hw => HeapIs.drop hw (List.Sublist.cons _ (List.Sublist.cons _ (List.Sublist.cons_cons _ (List.Sublist.cons_cons _ (List.Sublist.cons_cons _ (List.Sublist.cons_cons _ (List.Sublist.cons_cons _ (List.Sublist.cons_cons _ (List.Sublist.cons_cons _ (List.Sublist.cons_cons _ (List.Sublist.cons_cons _ (List.Sublist.cons_cons _ (List.Sublist.slnil)))))))))))))) ?_
    refine h_done (by kernel_rfl) ?_
    refine q_then ?_
    refine c_seq ?_
    refine c_seq ?_
    refine c_region ?_
    refine o_pure (p_assign (v := .int .i64 0) rfl) rfl rfl rfl ?_
    refine o_nil ?_
    refine q_then ?_
    refine c_block ?_
    refine c_loop (St := Nat × DUses × Option Addr × Nat × (Nat → Prop))
     (fun ⟨i, ag, aag_0, cag_0, Sag_0⟩ => [(3, .pointer (some ⟨B1, 0, none⟩)), (7, .pointer (some ⟨B7, 0, none⟩)), (8, .bool ((Lfu.access u key).2.1)), (9, .int .i64 ((Lfu.access u key).2.2)), (10, .int .i64 (Lfu.accessErr u key)), (11, .pointer (some ⟨B13, 0, none⟩)), (12, .int .i64 ((Lfu.run u l).2)), (13, .int .i64 (Lfu.runErr u l)), (14, .pointer (some ⟨B19, 0, none⟩)), (15, .int .i64 (Lfu.check u)), (16, .int .i64 (Lfu.victim u)), (17, .int .i64 (Lfu.victimErr u)), (18, .int .i64 (Lfu.check u)), (19, .int .i64 3), (20, .int .i64 (Lru.trace l)), (21, .int .i64 (Lfu.check u)), (22, .pointer (some ⟨B20, 0, none⟩)), (23, .pointer (some ⟨B21, 0, none⟩)), (24, .pointer (some ⟨B22, 0, none⟩)), (25, .bool false), (26, .int .i64 0), (27, .int .i64 0), (28, .int .i64 0), (29, .int .i64 (i : Int))])
     (fun ⟨i, ag, aag_0, cag_0, Sag_0⟩ => [own tUse Sag_0 aag_0 cag_0 ag.list, box B22 [.int .i64 ag.room, .slice aag_0 ag.list.length cag_0] 24, box B21 [.int .i64 0, .slice none 0 0] 24, box B20 [.int .i64 0, .slice none 0 0] 24, box B19 [.int .i64 ((Lfu.age u).room), .slice a16 ((Lfu.age u).list).length c17] 24, own tUse S14 a16 c17 ((Lfu.age u).list), box B13 [.int .i64 (((Lfu.run u l).1).room), .slice a10 (((Lfu.run u l).1).list).length c11] 24, own tUse S8 a10 c11 (((Lfu.run u l).1).list), box B7 [.int .i64 (((Lfu.access u key).1).room), .slice a4 (((Lfu.access u key).1).list).length c5] 24, own tUse S2 a4 c5 (((Lfu.access u key).1).list), box B1 [.int .i64 u.room, .slice au_0 u.list.length cu_0] 24, base w0])
     (fun ⟨i, ag, aag_0, cag_0, Sag_0⟩ => ag.room = u.room ∧ Lfu.GInv u.list ag.list i)
     (fun ⟨i, ag, aag_0, cag_0, Sag_0⟩ => u.list.length - i)
     (0, u, a58_5, c58_5, S58_5) ?_ (Sub.cons rfl (Sub.cons rfl (Sub.cons rfl (Sub.cons rfl (Sub.cons rfl (Sub.cons rfl (Sub.cons rfl (Sub.cons rfl (Sub.cons rfl (Sub.cons rfl (Sub.cons rfl (Sub.cons rfl (Sub.cons rfl (Sub.cons rfl (Sub.cons rfl (Sub.cons rfl (Sub.cons rfl (Sub.cons rfl (Sub.cons rfl (Sub.cons rfl (Sub.cons rfl (Sub.cons rfl (Sub.cons rfl (Sub.cons rfl (Sub.nil _))))))))))))))))))))))))) (fun _ hw => hw) ?_
    ·exact ⟨rfl, Lfu.GInv.start _⟩
    rintro ⟨i, ag, aag_0, cag_0, Sag_0⟩ hI K hK59
    have hul := hI.2.len
    show SC _ _ Try.prog 181 w0 _ _ [(3, .pointer (some ⟨B1, 0, none⟩)), (7, .pointer (some ⟨B7, 0, none⟩)), (8, .bool ((Lfu.access u key).2.1)), (9, .int .i64 ((Lfu.access u key).2.2)), (10, .int .i64 (Lfu.accessErr u key)), (11, .pointer (some ⟨B13, 0, none⟩)), (12, .int .i64 ((Lfu.run u l).2)), (13, .int .i64 (Lfu.runErr u l)), (14, .pointer (some ⟨B19, 0, none⟩)), (15, .int .i64 (Lfu.check u)), (16, .int .i64 (Lfu.victim u)), (17, .int .i64 (Lfu.victimErr u)), (18, .int .i64 (Lfu.check u)), (19, .int .i64 3), (20, .int .i64 (Lru.trace l)), (21, .int .i64 (Lfu.check u)), (22, .pointer (some ⟨B20, 0, none⟩)), (23, .pointer (some ⟨B21, 0, none⟩)), (24, .pointer (some ⟨B22, 0, none⟩)), (25, .bool false), (26, .int .i64 0), (27, .int .i64 0), (28, .int .i64 0), (29, .int .i64 (i : Int))] [own tUse Sag_0 aag_0 cag_0 ag.list, box B22 [.int .i64 ag.room, .slice aag_0 ag.list.length cag_0] 24, box B21 [.int .i64 0, .slice none 0 0] 24, box B20 [.int .i64 0, .slice none 0 0] 24, box B19 [.int .i64 ((Lfu.age u).room), .slice a16 ((Lfu.age u).list).length c17] 24, own tUse S14 a16 c17 ((Lfu.age u).list), box B13 [.int .i64 (((Lfu.run u l).1).room), .slice a10 (((Lfu.run u l).1).list).length c11] 24, own tUse S8 a10 c11 (((Lfu.run u l).1).list), box B7 [.int .i64 (((Lfu.access u key).1).room), .slice a4 (((Lfu.access u key).1).list).length c5] 24, own tUse S2 a4 c5 (((Lfu.access u key).1).list), box B1 [.int .i64 u.room, .slice au_0 u.list.length cu_0] 24, base w0]
    refine c_seq ?_
    refine c_seq ?_
    refine c_region ?_
    refine o_mv (v := .int .i64 (i : Int)) rfl rfl ?_
    refine o_pure (p_fieldAddr (B := B22) (j := 0) (j' := 1) rfl fo24_1 rfl) rfl rfl rfl ?_
    refine o_pure (p_load (i := 1) (v := .slice aag_0 ag.list.length cag_0) rfl rfl sh22 rfl) rfl rfl rfl ?_
    refine o_pure (p_len_slice (len := ag.list.length) rfl rfl Try.underlying22) rfl rfl rfl ?_
    refine o_pure (p_lt (p := (i : Int)) (q := (ag.list.length : Int)) rfl rfl) rfl rfl rfl ?_
    refine o_nil ?_
    refine q_then ?_
    refine c_cond (b := decide ((i : Int) < (ag.list.length : Int))) rfl (fun hc60 => ?_) (fun hc60 => ?_)
    ·simp only [decide_eq_true_eq] at hc60
     have hcb := hI.2.cnt hok (by omega)
     have hhb := Lfu.half_bd hcb
     refine c_skip ?_
     refine q_then ?_
     refine c_seq ?_
     refine c_block ?_
     refine c_held hmix [ownE tUse Sag_0 aag_0 cag_0 (ag.list.length), box B22 [.int .i64 ag.room, .slice aag_0 ag.list.length cag_0] 24, box B21 [.int .i64 0, .slice none 0 0] 24, box B20 [.int .i64 0, .slice none 0 0] 24, box B19 [.int .i64 ((Lfu.age u).room), .slice a16 ((Lfu.age u).list).length c17] 24, own tUse S14 a16 c17 ((Lfu.age u).list), box B13 [.int .i64 (((Lfu.run u l).1).room), .slice a10 (((Lfu.run u l).1).list).length c11] 24, own tUse S8 a10 c11 (((Lfu.run u l).1).list), box B7 [.int .i64 (((Lfu.access u key).1).room), .slice a4 (((Lfu.access u key).1).list).length c5] 24, own tUse S2 a4 c5 (((Lfu.access u key).1).list), box B1 [.int .i64 u.room, .slice au_0 u.list.length cu_0] 24, base w0] rfl rfl ?_
     refine h_take (i := 0) (ls := #[true, false, false, false, false, false, false, false, false, false, false, false, false, false]) rfl (by kernel_rfl) (by kernel_rfl) (by kernel_rfl) (fun _ _ _ h => h) (p_fieldAddr (B := B22) (j := 0) (j' := 1) rfl fo24_1 rfl) rfl rfl rfl (fun _ hw => HeapIs.drop (HeapIs.toE (i := 0) (m := ag.list.length) (T := tUse) rfl (by simp only [List.length_set]) hw) (List.Sublist.refl _)) rfl ?_
     refine h_take (i := 1) (ls := #[true, true, false, false, false, false, false, false, false, false, false, false, false, false]) rfl (by kernel_rfl) (by kernel_rfl) (by kernel_rfl) (fun _ _ _ h => h) (p_load (i := 1) (v := .slice aag_0 ag.list.length cag_0) rfl rfl sh22 rfl) rfl rfl rfl (fun _ hw => HeapIs.drop (HeapIs.toE (i := 0) (m := ag.list.length) (T := tUse) rfl (by simp only [List.length_set]) hw) (List.Sublist.refl _)) rfl ?_
     refine h_take (i := 2) (ls := #[true, true, true, false, false, false, false, false, false, false, false, false, false, false]) rfl (by kernel_rfl) (by kernel_rfl) (by kernel_rfl) (fun _ _ _ h => h) (p_move (v := .int .i64 (i : Int)) rfl) rfl rfl rfl (fun _ hw => HeapIs.drop (HeapIs.toE (i := 0) (m := ag.list.length) (T := tUse) rfl (by simp only [List.length_set]) hw) (List.Sublist.refl _)) rfl ?_
     refine h_take (i := 3) (ls := #[true, true, true, true, false, false, false, false, false, false, false, false, false, false]) rfl (by kernel_rfl) (by kernel_rfl) (by kernel_rfl) (fun _ _ _ h => h) (p_fieldAddr (B := B22) (j := 0) (j' := 1) rfl fo24_1 rfl) rfl rfl rfl (fun _ hw => HeapIs.drop (HeapIs.toE (i := 0) (m := ag.list.length) (T := tUse) rfl (by simp only [List.length_set]) hw) (List.Sublist.refl _)) rfl ?_
     refine h_take (i := 4) (ls := #[true, true, true, true, true, false, false, false, false, false, false, false, false, false]) rfl (by kernel_rfl) (by kernel_rfl) (by kernel_rfl) (fun _ _ _ h => h) (p_load (i := 1) (v := .slice aag_0 ag.list.length cag_0) rfl rfl sh22 rfl) rfl rfl rfl (fun _ hw => HeapIs.drop (HeapIs.toE (i := 0) (m := ag.list.length) (T := tUse) rfl (by simp only [List.length_set]) hw) (List.Sublist.refl _)) rfl ?_
     refine h_take (i := 5) (ls := #[true, true, true, true, true, true, false, false, false, false, false, false, false, false]) rfl (by kernel_rfl) (by kernel_rfl) (by kernel_rfl) (fun _ _ _ h => h) (p_move (v := .int .i64 (i : Int)) rfl) rfl rfl rfl (fun _ hw => HeapIs.drop (HeapIs.toE (i := 0) (m := ag.list.length) (T := tUse) rfl (by simp only [List.length_set]) hw) (List.Sublist.refl _)) rfl ?_
     refine h_take (i := 6) (ls := #[true, true, true, true, true, true, true, false, false, false, false, false, false, false]) rfl (by kernel_rfl) (by kernel_rfl) (by kernel_rfl) (fun _ _ _ h => h) (p_indexAddrE (T := tUse) (i := (i : Int)) (j := 0) rfl rfl rfl Try.underlying22 sz42 (by omega) (by omega)) rfl rfl rfl (fun _ hw => HeapIs.drop (HeapIs.toE (i := 0) (m := ag.list.length) (T := tUse) rfl (by simp only [List.length_set]) hw) (List.Sublist.refl _)) rfl ?_
     refine h_take (i := 7) (ls := #[true, true, true, true, true, true, true, true, false, false, false, false, false, false]) rfl (by kernel_rfl) (by kernel_rfl) (by kernel_rfl) (fun _ _ _ h => h) (p_fieldAddrE rfl fo42_1) rfl rfl rfl (fun _ hw => HeapIs.drop (HeapIs.toE (i := 0) (m := ag.list.length) (T := tUse) rfl (by simp only [List.length_set]) hw) (List.Sublist.refl _)) rfl ?_
     refine h_one (i := 8) (ls := #[true, true, true, true, true, true, true, true, true, false, false, false, false, false]) (by kernel_rfl) rfl rfl ?_
     refine o_pure (p_loadF (i := i) (j := 1) (T := tUse) (L := ag.list) (v := .int .i64 ((ag.list[i]).count)) rfl (rd_own (i := 0) rfl) (by first | assumption | omega) sh3 rfl) rfl rfl rfl ?_
     refine o_nil ?_
     refine h_next (fun _ hw => HeapIs.drop (HeapIs.toE (i := 0) (m := ag.list.length) (T := tUse) rfl (by simp only [List.length_set]) hw) (List.Sublist.refl _)) ?_
     refine h_take (i := 9) (ls := #[true, true, true, true, true, true, true, true, true, true, false, false, false, false]) rfl (by kernel_rfl) (by kernel_rfl) (by kernel_rfl) (fun _ _ _ h => h) (p_quob (p := (ag.list[i]).count) (q := 2) rfl rfl (by decide) (by omega)) rfl rfl rfl (fun _ hw => HeapIs.drop (HeapIs.toE (i := 0) (m := ag.list.length) (T := tUse) rfl (by simp only [List.length_set]) hw) (List.Sublist.refl _)) rfl ?_
     refine h_take (i := 10) (ls := #[true, true, true, true, true, true, true, true, true, true, true, false, false, false]) rfl (by kernel_rfl) (by kernel_rfl) (by kernel_rfl) (fun _ _ _ h => h) (p_max (p := 1) (q := (((ag.list[i]).count).tdiv 2)) rfl rfl) rfl rfl rfl (fun _ hw => HeapIs.drop (HeapIs.toE (i := 0) (m := ag.list.length) (T := tUse) rfl (by simp only [List.length_set]) hw) (List.Sublist.refl _)) rfl ?_
     refine h_take (i := 11) (ls := #[true, true, true, true, true, true, true, true, true, true, true, true, false, false]) rfl (by kernel_rfl) (by kernel_rfl) (by kernel_rfl) (fun _ _ _ h => h) (p_indexAddrE (T := tUse) (i := (i : Int)) (j := 0) rfl rfl rfl Try.underlying22 sz42 (by omega) (by omega)) rfl rfl rfl (fun _ hw => HeapIs.drop (HeapIs.toE (i := 0) (m := ag.list.length) (T := tUse) rfl (by simp only [List.length_set]) hw) (List.Sublist.refl _)) rfl ?_
     refine h_take (i := 12) (ls := #[true, true, true, true, true, true, true, true, true, true, true, true, true, false]) rfl (by kernel_rfl) (by kernel_rfl) (by kernel_rfl) (fun _ _ _ h => h) (p_fieldAddrE rfl fo42_1) rfl rfl rfl (fun _ hw => HeapIs.drop (HeapIs.toE (i := 0) (m := ag.list.length) (T := tUse) rfl (by simp only [List.length_set]) hw) (List.Sublist.refl _)) rfl ?_
     refine h_one (i := 13) (ls := #[true, true, true, true, true, true, true, true, true, true, true, true, true, true]) (by kernel_rfl) rfl rfl ?_
     refine o_storeF (j := 1) (i := 0) (T := tUse) (idx := i) (v := .int .i64 (max 1 (((ag.list[i]).count).tdiv 2))) (vs := [.int .i64 (max 1 (((ag.list[i]).count).tdiv 2))]) (z := (⟨(ag.list[i]).key, (max 1 (((ag.list[i]).count).tdiv 2))⟩ : DUse)) rfl rfl rfl rfl (by first | assumption | omega | (simp only [List.length_set]; omega)) sz3 rfl rfl rfl rfl (Sub.refl _) ?_
     refine o_nil ?_
     refine h_next (fun _ hw => HeapIs.drop (HeapIs.toE (i := 0) (m := ag.list.length) (T := tUse) rfl (by simp only [List.length_set]) hw) (List.Sublist.refl _)) ?_
     refine h_done (by kernel_rfl) ?_
     refine q_cast (F' := [(3, .pointer (some ⟨B1, 0, none⟩)), (7, .pointer (some ⟨B7, 0, none⟩)), (8, .bool ((Lfu.access u key).2.1)), (9, .int .i64 ((Lfu.access u key).2.2)), (10, .int .i64 (Lfu.accessErr u key)), (11, .pointer (some ⟨B13, 0, none⟩)), (12, .int .i64 ((Lfu.run u l).2)), (13, .int .i64 (Lfu.runErr u l)), (14, .pointer (some ⟨B19, 0, none⟩)), (15, .int .i64 (Lfu.check u)), (16, .int .i64 (Lfu.victim u)), (17, .int .i64 (Lfu.victimErr u)), (18, .int .i64 (Lfu.check u)), (19, .int .i64 3), (20, .int .i64 (Lru.trace l)), (21, .int .i64 (Lfu.check u)), (22, .pointer (some ⟨B20, 0, none⟩)), (23, .pointer (some ⟨B21, 0, none⟩)), (24, .pointer (some ⟨B22, 0, none⟩)), (25, .bool false), (26, .int .i64 0), (27, .int .i64 0), (28, .int .i64 0), (29, .int .i64 (i : Int))]) (H := [own tUse Sag_0 aag_0 cag_0 (ag.list.set i (⟨(ag.list[i]).key, (max 1 (((ag.list[i]).count).tdiv 2))⟩ : DUse)), box B22 [.int .i64 ag.room, .slice aag_0 ag.list.length cag_0] 24, box B21 [.int .i64 0, .slice none 0 0] 24, box B20 [.int .i64 0, .slice none 0 0] 24, box B19 [.int .i64 ((Lfu.age u).room), .slice a16 ((Lfu.age u).list).length c17] 24, own tUse S14 a16 c17 ((Lfu.age u).list), box B13 [.int .i64 (((Lfu.run u l).1).room), .slice a10 (((Lfu.run u l).1).list).length c11] 24, own tUse S8 a10 c11 (((Lfu.run u l).1).list), box B7 [.int .i64 (((Lfu.access u key).1).room), .slice a4 (((Lfu.access u key).1).list).length c5] 24, own tUse S2 a4 c5 (((Lfu.access u key).1).list), box B1 [.int .i64 u.room, .slice au_0 u.list.length cu_0] 24, base w0]) (H' := [own tUse Sag_0 aag_0 cag_0 (ag.list.set i (⟨(ag.list[i]).key, (max 1 (((ag.list[i]).count).tdiv 2))⟩ : DUse)), box B22 [.int .i64 ag.room, .slice aag_0 (ag.list.set i (⟨(ag.list[i]).key, (max 1 (((ag.list[i]).count).tdiv 2))⟩ : DUse)).length cag_0] 24, box B21 [.int .i64 0, .slice none 0 0] 24, box B20 [.int .i64 0, .slice none 0 0] 24, box B19 [.int .i64 ((Lfu.age u).room), .slice a16 ((Lfu.age u).list).length c17] 24, own tUse S14 a16 c17 ((Lfu.age u).list), box B13 [.int .i64 (((Lfu.run u l).1).room), .slice a10 (((Lfu.run u l).1).list).length c11] 24, own tUse S8 a10 c11 (((Lfu.run u l).1).list), box B7 [.int .i64 (((Lfu.access u key).1).room), .slice a4 (((Lfu.access u key).1).list).length c5] 24, own tUse S2 a4 c5 (((Lfu.access u key).1).list), box B1 [.int .i64 u.room, .slice au_0 u.list.length cu_0] 24, base w0]) (Sub.cons rfl (Sub.cons rfl (Sub.cons rfl (Sub.cons rfl (Sub.cons rfl (Sub.cons rfl (Sub.cons rfl (Sub.cons rfl (Sub.cons rfl (Sub.cons rfl (Sub.cons rfl (Sub.cons rfl (Sub.cons rfl (Sub.cons rfl (Sub.cons rfl (Sub.cons rfl (Sub.cons rfl (Sub.cons rfl (Sub.cons rfl (Sub.cons rfl (Sub.cons rfl (Sub.cons rfl (Sub.cons rfl (Sub.cons rfl (Sub.nil _))))))))))))))))))))))))) (by simp only [List.length_set, List.length_reverse]) ?_
     refine q_block_normal (q_then ?_)
     refine c_region ?_
     refine o_mv (v := .int .i64 (i : Int)) rfl rfl ?_
     refine o_pure (p_addb (p := (i : Int)) (q := 1) rfl rfl (by omega)) rfl rfl rfl ?_
     refine o_pure (p_assign (v := .int .i64 ((i : Int) + 1)) rfl) rfl rfl rfl ?_
     refine o_nil ?_
     refine q_round hK59 (i + 1, (⟨ag.room, (ag.list.set i (⟨(ag.list[i]).key, (max 1 (((ag.list[i]).count).tdiv 2))⟩ : DUse))⟩ : DUses), aag_0, cag_0, Sag_0) ?_ ?_ ?_ ?_
     ·clear hK59
      exact ⟨hI.1, hI.2.next (by omega)⟩
     ·(try dsimp only); omega
     ·exact Sub.cons rfl (Sub.cons rfl (Sub.cons rfl (Sub.cons rfl (Sub.cons rfl (Sub.cons rfl (Sub.cons rfl (Sub.cons rfl (Sub.cons rfl (Sub.cons rfl (Sub.cons rfl (Sub.cons rfl (Sub.cons rfl (Sub.cons rfl (Sub.cons rfl (Sub.cons rfl (Sub.cons rfl (Sub.cons rfl (Sub.cons rfl (Sub.cons rfl (Sub.cons rfl (Sub.cons rfl (Sub.cons rfl (Sub.cons rfl (Sub.nil _))))))))))))))))))))))))
     ·exact fun _ hw => HeapIs.pick hw [0, 1, 2, 3, 4, 5, 6, 7, 8, 9, 10, 11] (by decide) rfl
    ·simp only [decide_eq_false_iff_not, Int.not_lt] at hc60
     refine c_exit ?_
     refine q_then_exit (q_then_exit (q_block_exit (q_then ?_)))
     refine c_seq ?_
     refine c_region ?_
     refine o_pure (p_fieldAddr (B := B1) (j := 0) (j' := 1) rfl fo24_1 rfl) rfl rfl rfl ?_
     refine o_pure (p_load (i := 10) (v := .slice au_0 u.list.length cu_0) rfl rfl sh22 rfl) rfl rfl rfl ?_
     refine o_pure (p_len_slice (len := u.list.length) rfl rfl Try.underlying22) rfl rfl rfl ?_
     refine o_pure (p_eq (p := (u.list.length : Int)) (q := 0) rfl rfl) rfl rfl rfl ?_
     refine o_nil ?_
     refine q_then ?_
     refine c_cond (b := ((u.list.length : Int) == 0)) rfl (fun hc62 => ?_) (fun hc62 => ?_)
     ·simp only [beq_iff_eq] at hc62
      refine c_region ?_
      refine o_pure (p_assign (v := .int .i64 5) rfl) rfl rfl rfl ?_
      refine o_nil ?_
      refine q_then ?_
      refine c_seq ?_
      refine c_region ?_
      refine o_call0 (v := .bool true) rfl (lfuBegun_ok ) hf24 (fun _ _ => trivial) rfl ?_
      refine o_mv (v := .bool true) rfl rfl ?_
      refine o_unguard 120 rfl rfl ?_
      refine o_pure (p_load_agg (i := 10) (vs := [.int .i64 u.room, .slice au_0 u.list.length cu_0]) rfl rfl sh24 rfl rfl) rfl rfl rfl ?_
      refine o_unguard 120 rfl rfl ?_
      refine o_call0 (v := .int .i64 (Lfu.check u)) rfl (fcheck_ok u au_0 cu_0) hf25 (fun w hw => (rd_base (i := 11) rfl hu_0) w hw) rfl ?_
      refine o_unguard 120 rfl rfl ?_
      refine o_mv (v := .int .i64 (Lfu.check u)) rfl rfl ?_
      refine o_unguard 120 rfl rfl ?_
      refine o_pure (p_eq (p := (Lfu.check u)) (q := (Lfu.check u)) rfl rfl) rfl rfl rfl ?_
      refine o_pt (v := .bool ((Lfu.check u) == (Lfu.check u))) rfl rfl rfl ?_
      refine o_mv (v := .bool ((Lfu.check u) == (Lfu.check u))) rfl rfl ?_
      refine o_and (p := 130) 4 (decide (((Lfu.access u key).1) = (⟨0, []⟩ : DUses))) ?_ ?_ ?_
      ·intro hb63 hk
       simp only [beq_iff_eq] at hb63
       refine o_unguard 126 rfl rfl ?_
       refine o_pure (p_load_agg (i := 8) (vs := [.int .i64 (((Lfu.access u key).1).room), .slice a4 (((Lfu.access u key).1).list).length c5]) rfl rfl sh24 rfl rfl) rfl rfl rfl ?_
       refine o_unguard 126 rfl rfl ?_
       refine o_pure (p_load_agg (i := 3) (vs := [.int .i64 0, .slice none 0 0]) rfl rfl sh24 rfl rfl) rfl rfl rfl ?_
       refine o_unguard 126 rfl rfl ?_
       refine o_call0 (v := .bool (decide (((Lfu.access u key).1) = (⟨0, []⟩ : DUses)))) rfl (sameUses_ok ((Lfu.access u key).1) a4 c5 (⟨0, []⟩ : DUses) none 0) hf26 (fun w hw => ⟨(rd_own (i := 9) rfl) w hw, rd_nil w hw⟩) rfl ?_
       refine o_pt (v := .bool (decide (((Lfu.access u key).1) = (⟨0, []⟩ : DUses)))) rfl rfl rfl ?_
       exact o_sub (Sub.cons rfl (Sub.skip rfl (Sub.skip rfl (Sub.skip rfl (Sub.skip rfl (Sub.skip rfl (Sub.refl _))))))) hk
      ·intro hb63 hk
       refine o_guard_no rfl 126 rfl rfl rfl rfl rfl ?_
       refine o_guard_no rfl 126 rfl rfl rfl rfl rfl ?_
       refine o_guard_no rfl 126 rfl rfl rfl rfl rfl ?_
       refine o_pf (v := .bool false) rfl rfl rfl ?_
       exact o_sub (Sub.cons rfl (Sub.skip rfl (Sub.skip rfl (Sub.skip rfl (Sub.skip rfl (Sub.skip rfl (Sub.refl _))))))) hk
      refine o_mv (v := .bool (((Lfu.check u) == (Lfu.check u)) && (decide (((Lfu.access u key).1) = (⟨0, []⟩ : DUses))))) rfl rfl ?_
      refine o_and (p := 135) 4 (((Lfu.access u key).2.1) == false) ?_ ?_ ?_
      ·intro hb64 hk
       simp only [Bool.and_eq_true, beq_iff_eq, decide_eq_true_eq] at hb64
       refine o_unguard 131 rfl rfl ?_
       refine o_mv (v := .bool ((Lfu.access u key).2.1)) rfl rfl ?_
       refine o_unguard 131 rfl rfl ?_
       refine o_mv (v := .bool false) rfl rfl ?_
       refine o_unguard 131 rfl rfl ?_
       refine o_pure (p_eqBool (b := ((Lfu.access u key).2.1)) (c := false) rfl rfl Try.underlying4) rfl rfl rfl ?_
       refine o_pt (v := .bool (((Lfu.access u key).2.1) == false)) rfl rfl rfl ?_
       exact o_sub (Sub.cons rfl (Sub.skip rfl (Sub.skip rfl (Sub.skip rfl (Sub.skip rfl (Sub.skip rfl (Sub.refl _))))))) hk
      ·intro hb64 hk
       refine o_guard_no rfl 131 rfl rfl rfl rfl rfl ?_
       refine o_guard_no rfl 131 rfl rfl rfl rfl rfl ?_
       refine o_guard_no rfl 131 rfl rfl rfl rfl rfl ?_
       refine o_pf (v := .bool false) rfl rfl rfl ?_
       exact o_sub (Sub.cons rfl (Sub.skip rfl (Sub.skip rfl (Sub.skip rfl (Sub.skip rfl (Sub.skip rfl (Sub.refl _))))))) hk
      refine o_mv (v := .bool ((((Lfu.check u) == (Lfu.check u)) && (decide (((Lfu.access u key).1) = (⟨0, []⟩ : DUses)))) && (((Lfu.access u key).2.1) == false))) rfl rfl ?_
      refine o_and (p := 140) 4 (((Lfu.access u key).2.2) == 0) ?_ ?_ ?_
      ·intro hb65 hk
       simp only [Bool.and_eq_true, beq_iff_eq, decide_eq_true_eq] at hb65
       refine o_unguard 136 rfl rfl ?_
       refine o_mv (v := .int .i64 ((Lfu.access u key).2.2)) rfl rfl ?_
       refine o_unguard 136 rfl rfl ?_
       refine o_mv (v := .int .i64 0) rfl rfl ?_
       refine o_unguard 136 rfl rfl ?_
       refine o_pure (p_eq (p := ((Lfu.access u key).2.2)) (q := 0) rfl rfl) rfl rfl rfl ?_
       refine o_pt (v := .bool (((Lfu.access u key).2.2) == 0)) rfl rfl rfl ?_
       exact o_sub (Sub.cons rfl (Sub.skip rfl (Sub.skip rfl (Sub.skip rfl (Sub.skip rfl (Sub.skip rfl (Sub.refl _))))))) hk
      ·intro hb65 hk
       refine o_guard_no rfl 136 rfl rfl rfl rfl rfl ?_
       refine o_guard_no rfl 136 rfl rfl rfl rfl rfl ?_
       refine o_guard_no rfl 136 rfl rfl rfl rfl rfl ?_
       refine o_pf (v := .bool false) rfl rfl rfl ?_
       exact o_sub (Sub.cons rfl (Sub.skip rfl (Sub.skip rfl (Sub.skip rfl (Sub.skip rfl (Sub.skip rfl (Sub.refl _))))))) hk
      refine o_mv (v := .bool (((((Lfu.check u) == (Lfu.check u)) && (decide (((Lfu.access u key).1) = (⟨0, []⟩ : DUses)))) && (((Lfu.access u key).2.1) == false)) && (((Lfu.access u key).2.2) == 0))) rfl rfl ?_
      refine o_and (p := 145) 4 ((Lfu.accessErr u key) == 3) ?_ ?_ ?_
      ·intro hb66 hk
       simp only [Bool.and_eq_true, beq_iff_eq, decide_eq_true_eq] at hb66
       refine o_unguard 141 rfl rfl ?_
       refine o_mv (v := .int .i64 (Lfu.accessErr u key)) rfl rfl ?_
       refine o_unguard 141 rfl rfl ?_
       refine o_mv (v := .int .i64 3) rfl rfl ?_
       refine o_unguard 141 rfl rfl ?_
       refine o_pure (p_eq (p := (Lfu.accessErr u key)) (q := 3) rfl rfl) rfl rfl rfl ?_
       refine o_pt (v := .bool ((Lfu.accessErr u key) == 3)) rfl rfl rfl ?_
       exact o_sub (Sub.cons rfl (Sub.skip rfl (Sub.skip rfl (Sub.skip rfl (Sub.skip rfl (Sub.skip rfl (Sub.refl _))))))) hk
      ·intro hb66 hk
       refine o_guard_no rfl 141 rfl rfl rfl rfl rfl ?_
       refine o_guard_no rfl 141 rfl rfl rfl rfl rfl ?_
       refine o_guard_no rfl 141 rfl rfl rfl rfl rfl ?_
       refine o_pf (v := .bool false) rfl rfl rfl ?_
       exact o_sub (Sub.cons rfl (Sub.skip rfl (Sub.skip rfl (Sub.skip rfl (Sub.skip rfl (Sub.skip rfl (Sub.refl _))))))) hk
      refine o_mv (v := .bool ((((((Lfu.check u) == (Lfu.check u)) && (decide (((Lfu.access u key).1) = (⟨0, []⟩ : DUses)))) && (((Lfu.access u key).2.1) == false)) && (((Lfu.access u key).2.2) == 0)) && ((Lfu.accessErr u key) == 3))) rfl rfl ?_
      refine o_and (p := 150) 4 (decide (((Lfu.run u l).1) = (⟨0, []⟩ : DUses))) ?_ ?_ ?_
      ·intro hb67 hk
       simp only [Bool.and_eq_true, beq_iff_eq, decide_eq_true_eq] at hb67
       refine o_unguard 146 rfl rfl ?_
       refine o_pure (p_load_agg (i := 6) (vs := [.int .i64 (((Lfu.run u l).1).room), .slice a10 (((Lfu.run u l).1).list).length c11]) rfl rfl sh24 rfl rfl) rfl rfl rfl ?_
       refine o_unguard 146 rfl rfl ?_
       refine o_pure (p_load_agg (i := 2) (vs := [.int .i64 0, .slice none 0 0]) rfl rfl sh24 rfl rfl) rfl rfl rfl ?_
       refine o_unguard 146 rfl rfl ?_
       refine o_call0 (v := .bool (decide (((Lfu.run u l).1) = (⟨0, []⟩ : DUses)))) rfl (sameUses_ok ((Lfu.run u l).1) a10 c11 (⟨0, []⟩ : DUses) none 0) hf26 (fun w hw => ⟨(rd_own (i := 7) rfl) w hw, rd_nil w hw⟩) rfl ?_
       refine o_pt (v := .bool (decide (((Lfu.run u l).1) = (⟨0, []⟩ : DUses)))) rfl rfl rfl ?_
       exact o_sub (Sub.cons rfl (Sub.skip rfl (Sub.skip rfl (Sub.skip rfl (Sub.skip rfl (Sub.skip rfl (Sub.refl _))))))) hk
      ·intro hb67 hk
       refine o_guard_no rfl 146 rfl rfl rfl rfl rfl ?_
       refine o_guard_no rfl 146 rfl rfl rfl rfl rfl ?_
       refine o_guard_no rfl 146 rfl rfl rfl rfl rfl ?_
       refine o_pf (v := .bool false) rfl rfl rfl ?_
       exact o_sub (Sub.cons rfl (Sub.skip rfl (Sub.skip rfl (Sub.skip rfl (Sub.skip rfl (Sub.skip rfl (Sub.refl _))))))) hk
      refine o_mv (v := .bool (((((((Lfu.check u) == (Lfu.check u)) && (decide (((Lfu.access u key).1) = (⟨0, []⟩ : DUses)))) && (((Lfu.access u key).2.1) == false)) && (((Lfu.access u key).2.2) == 0)) && ((Lfu.accessErr u key) == 3)) && (decide (((Lfu.run u l).1) = (⟨0, []⟩ : DUses))))) rfl rfl ?_
      refine o_and (p := 155) 4 (((Lfu.run u l).2) == 0) ?_ ?_ ?_
      ·intro hb68 hk
       simp only [Bool.and_eq_true, beq_iff_eq, decide_eq_true_eq] at hb68
       refine o_unguard 151 rfl rfl ?_
       refine o_mv (v := .int .i64 ((Lfu.run u l).2)) rfl rfl ?_
       refine o_unguard 151 rfl rfl ?_
       refine o_mv (v := .int .i64 0) rfl rfl ?_
       refine o_unguard 151 rfl rfl ?_
       refine o_pure (p_eq (p := ((Lfu.run u l).2)) (q := 0) rfl rfl) rfl rfl rfl ?_
       refine o_pt (v := .bool (((Lfu.run u l).2) == 0)) rfl rfl rfl ?_
       exact o_sub (Sub.cons rfl (Sub.skip rfl (Sub.skip rfl (Sub.skip rfl (Sub.skip rfl (Sub.skip rfl (Sub.refl _))))))) hk
      ·intro hb68 hk
       refine o_guard_no rfl 151 rfl rfl rfl rfl rfl ?_
       refine o_guard_no rfl 151 rfl rfl rfl rfl rfl ?_
       refine o_guard_no rfl 151 rfl rfl rfl rfl rfl ?_
       refine o_pf (v := .bool false) rfl rfl rfl ?_
       exact o_sub (Sub.cons rfl (Sub.skip rfl (Sub.skip rfl (Sub.skip rfl (Sub.skip rfl (Sub.skip rfl (Sub.refl _))))))) hk
      refine o_mv (v := .bool ((((((((Lfu.check u) == (Lfu.check u)) && (decide (((Lfu.access u key).1) = (⟨0, []⟩ : DUses)))) && (((Lfu.access u key).2.1) == false)) && (((Lfu.access u key).2.2) == 0)) && ((Lfu.accessErr u key) == 3)) && (decide (((Lfu.run u l).1) = (⟨0, []⟩ : DUses)))) && (((Lfu.run u l).2) == 0))) rfl rfl ?_
      refine o_and (p := 160) 4 ((Lfu.runErr u l) == (Lru.trace l)) ?_ ?_ ?_
      ·intro hb69 hk
       simp only [Bool.and_eq_true, beq_iff_eq, decide_eq_true_eq] at hb69
       refine o_unguard 156 rfl rfl ?_
       refine o_mv (v := .int .i64 (Lfu.runErr u l)) rfl rfl ?_
       refine o_unguard 156 rfl rfl ?_
       refine o_mv (v := .int .i64 (Lru.trace l)) rfl rfl ?_
       refine o_unguard 156 rfl rfl ?_
       refine o_pure (p_eq (p := (Lfu.runErr u l)) (q := (Lru.trace l)) rfl rfl) rfl rfl rfl ?_
       refine o_pt (v := .bool ((Lfu.runErr u l) == (Lru.trace l))) rfl rfl rfl ?_
       exact o_sub (Sub.cons rfl (Sub.skip rfl (Sub.skip rfl (Sub.skip rfl (Sub.skip rfl (Sub.skip rfl (Sub.refl _))))))) hk
      ·intro hb69 hk
       refine o_guard_no rfl 156 rfl rfl rfl rfl rfl ?_
       refine o_guard_no rfl 156 rfl rfl rfl rfl rfl ?_
       refine o_guard_no rfl 156 rfl rfl rfl rfl rfl ?_
       refine o_pf (v := .bool false) rfl rfl rfl ?_
       exact o_sub (Sub.cons rfl (Sub.skip rfl (Sub.skip rfl (Sub.skip rfl (Sub.skip rfl (Sub.skip rfl (Sub.refl _))))))) hk
      refine o_mv (v := .bool (((((((((Lfu.check u) == (Lfu.check u)) && (decide (((Lfu.access u key).1) = (⟨0, []⟩ : DUses)))) && (((Lfu.access u key).2.1) == false)) && (((Lfu.access u key).2.2) == 0)) && ((Lfu.accessErr u key) == 3)) && (decide (((Lfu.run u l).1) = (⟨0, []⟩ : DUses)))) && (((Lfu.run u l).2) == 0)) && ((Lfu.runErr u l) == (Lru.trace l)))) rfl rfl ?_
      refine o_and (p := 165) 4 (decide ((Lfu.age u) = ag)) ?_ ?_ ?_
      ·intro hb70 hk
       simp only [Bool.and_eq_true, beq_iff_eq, decide_eq_true_eq] at hb70
       refine o_unguard 161 rfl rfl ?_
       refine o_pure (p_load_agg (i := 4) (vs := [.int .i64 ((Lfu.age u).room), .slice a16 ((Lfu.age u).list).length c17]) rfl rfl sh24 rfl rfl) rfl rfl rfl ?_
       refine o_unguard 161 rfl rfl ?_
       refine o_pure (p_load_agg (i := 1) (vs := [.int .i64 ag.room, .slice aag_0 ag.list.length cag_0]) rfl rfl sh24 rfl rfl) rfl rfl rfl ?_
       refine o_unguard 161 rfl rfl ?_
       refine o_call0 (v := .bool (decide ((Lfu.age u) = ag))) rfl (sameUses_ok (Lfu.age u) a16 c17 ag aag_0 cag_0) hf26 (fun w hw => ⟨(rd_own (i := 5) rfl) w hw, (rd_own (i := 0) rfl) w hw⟩) rfl ?_
       refine o_pt (v := .bool (decide ((Lfu.age u) = ag))) rfl rfl rfl ?_
       exact o_sub (Sub.cons rfl (Sub.skip rfl (Sub.skip rfl (Sub.skip rfl (Sub.skip rfl (Sub.skip rfl (Sub.refl _))))))) hk
      ·intro hb70 hk
       refine o_guard_no rfl 161 rfl rfl rfl rfl rfl ?_
       refine o_guard_no rfl 161 rfl rfl rfl rfl rfl ?_
       refine o_guard_no rfl 161 rfl rfl rfl rfl rfl ?_
       refine o_pf (v := .bool false) rfl rfl rfl ?_
       exact o_sub (Sub.cons rfl (Sub.skip rfl (Sub.skip rfl (Sub.skip rfl (Sub.skip rfl (Sub.skip rfl (Sub.refl _))))))) hk
      refine o_mv (v := .bool ((((((((((Lfu.check u) == (Lfu.check u)) && (decide (((Lfu.access u key).1) = (⟨0, []⟩ : DUses)))) && (((Lfu.access u key).2.1) == false)) && (((Lfu.access u key).2.2) == 0)) && ((Lfu.accessErr u key) == 3)) && (decide (((Lfu.run u l).1) = (⟨0, []⟩ : DUses)))) && (((Lfu.run u l).2) == 0)) && ((Lfu.runErr u l) == (Lru.trace l))) && (decide ((Lfu.age u) = ag)))) rfl rfl ?_
      refine o_and (p := 170) 4 ((Lfu.check u) == (Lfu.check u)) ?_ ?_ ?_
      ·intro hb71 hk
       simp only [Bool.and_eq_true, beq_iff_eq, decide_eq_true_eq] at hb71
       refine o_unguard 166 rfl rfl ?_
       refine o_mv (v := .int .i64 (Lfu.check u)) rfl rfl ?_
       refine o_unguard 166 rfl rfl ?_
       refine o_mv (v := .int .i64 (Lfu.check u)) rfl rfl ?_
       refine o_unguard 166 rfl rfl ?_
       refine o_pure (p_eq (p := (Lfu.check u)) (q := (Lfu.check u)) rfl rfl) rfl rfl rfl ?_
       refine o_pt (v := .bool ((Lfu.check u) == (Lfu.check u))) rfl rfl rfl ?_
       exact o_sub (Sub.cons rfl (Sub.skip rfl (Sub.skip rfl (Sub.skip rfl (Sub.skip rfl (Sub.skip rfl (Sub.refl _))))))) hk
      ·intro hb71 hk
       refine o_guard_no rfl 166 rfl rfl rfl rfl rfl ?_
       refine o_guard_no rfl 166 rfl rfl rfl rfl rfl ?_
       refine o_guard_no rfl 166 rfl rfl rfl rfl rfl ?_
       refine o_pf (v := .bool false) rfl rfl rfl ?_
       exact o_sub (Sub.cons rfl (Sub.skip rfl (Sub.skip rfl (Sub.skip rfl (Sub.skip rfl (Sub.skip rfl (Sub.refl _))))))) hk
      refine o_mv (v := .bool (((((((((((Lfu.check u) == (Lfu.check u)) && (decide (((Lfu.access u key).1) = (⟨0, []⟩ : DUses)))) && (((Lfu.access u key).2.1) == false)) && (((Lfu.access u key).2.2) == 0)) && ((Lfu.accessErr u key) == 3)) && (decide (((Lfu.run u l).1) = (⟨0, []⟩ : DUses)))) && (((Lfu.run u l).2) == 0)) && ((Lfu.runErr u l) == (Lru.trace l))) && (decide ((Lfu.age u) = ag))) && ((Lfu.check u) == (Lfu.check u)))) rfl rfl ?_
      refine o_and (p := 175) 4 ((Lfu.victim u) == 0) ?_ ?_ ?_
      ·intro hb72 hk
       simp only [Bool.and_eq_true, beq_iff_eq, decide_eq_true_eq] at hb72
       refine o_unguard 171 rfl rfl ?_
       refine o_mv (v := .int .i64 (Lfu.victim u)) rfl rfl ?_
       refine o_unguard 171 rfl rfl ?_
       refine o_mv (v := .int .i64 0) rfl rfl ?_
       refine o_unguard 171 rfl rfl ?_
       refine o_pure (p_eq (p := (Lfu.victim u)) (q := 0) rfl rfl) rfl rfl rfl ?_
       refine o_pt (v := .bool ((Lfu.victim u) == 0)) rfl rfl rfl ?_
       exact o_sub (Sub.cons rfl (Sub.skip rfl (Sub.skip rfl (Sub.skip rfl (Sub.skip rfl (Sub.skip rfl (Sub.refl _))))))) hk
      ·intro hb72 hk
       refine o_guard_no rfl 171 rfl rfl rfl rfl rfl ?_
       refine o_guard_no rfl 171 rfl rfl rfl rfl rfl ?_
       refine o_guard_no rfl 171 rfl rfl rfl rfl rfl ?_
       refine o_pf (v := .bool false) rfl rfl rfl ?_
       exact o_sub (Sub.cons rfl (Sub.skip rfl (Sub.skip rfl (Sub.skip rfl (Sub.skip rfl (Sub.skip rfl (Sub.refl _))))))) hk
      refine o_mv (v := .bool ((((((((((((Lfu.check u) == (Lfu.check u)) && (decide (((Lfu.access u key).1) = (⟨0, []⟩ : DUses)))) && (((Lfu.access u key).2.1) == false)) && (((Lfu.access u key).2.2) == 0)) && ((Lfu.accessErr u key) == 3)) && (decide (((Lfu.run u l).1) = (⟨0, []⟩ : DUses)))) && (((Lfu.run u l).2) == 0)) && ((Lfu.runErr u l) == (Lru.trace l))) && (decide ((Lfu.age u) = ag))) && ((Lfu.check u) == (Lfu.check u))) && ((Lfu.victim u) == 0))) rfl rfl ?_
      refine o_and (p := 180) 4 ((Lfu.victimErr u) == 5) ?_ ?_ ?_
      ·intro hb73 hk
       simp only [Bool.and_eq_true, beq_iff_eq, decide_eq_true_eq] at hb73
       refine o_unguard 176 rfl rfl ?_
       refine o_mv (v := .int .i64 (Lfu.victimErr u)) rfl rfl ?_
       refine o_unguard 176 rfl rfl ?_
       refine o_mv (v := .int .i64 5) rfl rfl ?_
       refine o_unguard 176 rfl rfl ?_
       refine o_pure (p_eq (p := (Lfu.victimErr u)) (q := 5) rfl rfl) rfl rfl rfl ?_
       refine o_pt (v := .bool ((Lfu.victimErr u) == 5)) rfl rfl rfl ?_
       exact o_sub (Sub.cons rfl (Sub.skip rfl (Sub.skip rfl (Sub.skip rfl (Sub.skip rfl (Sub.skip rfl (Sub.refl _))))))) hk
      ·intro hb73 hk
       refine o_guard_no rfl 176 rfl rfl rfl rfl rfl ?_
       refine o_guard_no rfl 176 rfl rfl rfl rfl rfl ?_
       refine o_guard_no rfl 176 rfl rfl rfl rfl rfl ?_
       refine o_pf (v := .bool false) rfl rfl rfl ?_
       exact o_sub (Sub.cons rfl (Sub.skip rfl (Sub.skip rfl (Sub.skip rfl (Sub.skip rfl (Sub.skip rfl (Sub.refl _))))))) hk
      refine o_pure (p_assign (v := .bool (((((((((((((Lfu.check u) == (Lfu.check u)) && (decide (((Lfu.access u key).1) = (⟨0, []⟩ : DUses)))) && (((Lfu.access u key).2.1) == false)) && (((Lfu.access u key).2.2) == 0)) && ((Lfu.accessErr u key) == 3)) && (decide (((Lfu.run u l).1) = (⟨0, []⟩ : DUses)))) && (((Lfu.run u l).2) == 0)) && ((Lfu.runErr u l) == (Lru.trace l))) && (decide ((Lfu.age u) = ag))) && ((Lfu.check u) == (Lfu.check u))) && ((Lfu.victim u) == 0)) && ((Lfu.victimErr u) == 5))) rfl) rfl rfl rfl ?_
      refine o_nil ?_
      refine q_then ?_
      refine c_ret ?_
      have hr0 : ((((((((((((((Lfu.check u) == (Lfu.check u)) && (decide (((Lfu.access u key).1) = (⟨0, []⟩ : DUses)))) && (((Lfu.access u key).2.1) == false)) && (((Lfu.access u key).2.2) == 0)) && ((Lfu.accessErr u key) == 3)) && (decide (((Lfu.run u l).1) = (⟨0, []⟩ : DUses)))) && (((Lfu.run u l).2) == 0)) && ((Lfu.runErr u l) == (Lru.trace l))) && (decide ((Lfu.age u) = ag))) && ((Lfu.check u) == (Lfu.check u))) && ((Lfu.victim u) == 0)) && ((Lfu.victimErr u) == 5)) : Bool) = true := by
       rcases Lfu.acc_num u key with ⟨a0, a1, a2⟩ | ⟨a0, a3, a1, a2⟩ | ⟨a0, a3, a1, a2⟩ <;> rcases Lfu.run_cases u l with ⟨b0, b1, b2⟩ | ⟨b0, b3, b1, b2⟩ | ⟨b0, b3, b1, b2⟩ <;> rcases Lfu.vic_cases u with ⟨s0, s1, s2⟩ | ⟨s0, s3, s1, s2⟩ | ⟨s0, s3, s1, s2⟩ <;> first | (exfalso; omega) | (rw [a1, a2, b1, b2, s1, s2]; first | (simp [Lfu.zero, Lfu.age, a0]; done) | (simp [Lfu.zero, Lfu.age, a0, b3]; done) | (have hag := Lfu.age_of hI.1 (hI.2.done (by omega)); rw [hag]; simp [Lfu.zero, Lfu.age, a0, b3]; done))
      refine q_end0 (v := .bool (((((((((((((Lfu.check u) == (Lfu.check u)) && (decide (((Lfu.access u key).1) = (⟨0, []⟩ : DUses)))) && (((Lfu.access u key).2.1) == false)) && (((Lfu.access u key).2.2) == 0)) && ((Lfu.accessErr u key) == 3)) && (decide (((Lfu.run u l).1) = (⟨0, []⟩ : DUses)))) && (((Lfu.run u l).2) == 0)) && ((Lfu.runErr u l) == (Lru.trace l))) && (decide ((Lfu.age u) = ag))) && ((Lfu.check u) == (Lfu.check u))) && ((Lfu.victim u) == 0)) && ((Lfu.victimErr u) == 5))) (rt1 rfl (r_tmp rfl)) (i := 11) rfl ?_
      exact (by have hcc := congrArg (fun (y0 : Bool) => (.bool y0 : Value)) hr0; exact hcc)
     ·simp only [beq_eq_false_iff_ne, ne_eq] at hc62
      refine c_region ?_
      refine o_pure (p_fieldAddr (B := B1) (j := 0) (j' := 1) rfl fo24_1 rfl) rfl rfl rfl ?_
      refine o_pure (p_load (i := 10) (v := .slice au_0 u.list.length cu_0) rfl rfl sh22 rfl) rfl rfl rfl ?_
      refine o_call0 (v := .int .i64 ((u.list.getD (Lfu.least u.list) default).key)) rfl (rfleast_ok u.list au_0 cu_0 (by omega)) hf23 (fun w hw => (rd_base (i := 11) rfl hu_0) w hw) rfl ?_
      refine o_pure (p_assign (v := .int .i64 ((u.list.getD (Lfu.least u.list) default).key)) rfl) rfl rfl rfl ?_
      refine o_nil ?_
      refine q_then ?_
      refine c_seq ?_
      refine c_region ?_
      refine o_call0 (v := .bool true) rfl (lfuBegun_ok ) hf24 (fun _ _ => trivial) rfl ?_
      refine o_mv (v := .bool true) rfl rfl ?_
      refine o_unguard 120 rfl rfl ?_
      refine o_pure (p_load_agg (i := 10) (vs := [.int .i64 u.room, .slice au_0 u.list.length cu_0]) rfl rfl sh24 rfl rfl) rfl rfl rfl ?_
      refine o_unguard 120 rfl rfl ?_
      refine o_call0 (v := .int .i64 (Lfu.check u)) rfl (fcheck_ok u au_0 cu_0) hf25 (fun w hw => (rd_base (i := 11) rfl hu_0) w hw) rfl ?_
      refine o_unguard 120 rfl rfl ?_
      refine o_mv (v := .int .i64 (Lfu.check u)) rfl rfl ?_
      refine o_unguard 120 rfl rfl ?_
      refine o_pure (p_eq (p := (Lfu.check u)) (q := (Lfu.check u)) rfl rfl) rfl rfl rfl ?_
      refine o_pt (v := .bool ((Lfu.check u) == (Lfu.check u))) rfl rfl rfl ?_
      refine o_mv (v := .bool ((Lfu.check u) == (Lfu.check u))) rfl rfl ?_
      refine o_and (p := 130) 4 (decide (((Lfu.access u key).1) = (⟨0, []⟩ : DUses))) ?_ ?_ ?_
      ·intro hb74 hk
       simp only [beq_iff_eq] at hb74
       refine o_unguard 126 rfl rfl ?_
       refine o_pure (p_load_agg (i := 8) (vs := [.int .i64 (((Lfu.access u key).1).room), .slice a4 (((Lfu.access u key).1).list).length c5]) rfl rfl sh24 rfl rfl) rfl rfl rfl ?_
       refine o_unguard 126 rfl rfl ?_
       refine o_pure (p_load_agg (i := 3) (vs := [.int .i64 0, .slice none 0 0]) rfl rfl sh24 rfl rfl) rfl rfl rfl ?_
       refine o_unguard 126 rfl rfl ?_
       refine o_call0 (v := .bool (decide (((Lfu.access u key).1) = (⟨0, []⟩ : DUses)))) rfl (sameUses_ok ((Lfu.access u key).1) a4 c5 (⟨0, []⟩ : DUses) none 0) hf26 (fun w hw => ⟨(rd_own (i := 9) rfl) w hw, rd_nil w hw⟩) rfl ?_
       refine o_pt (v := .bool (decide (((Lfu.access u key).1) = (⟨0, []⟩ : DUses)))) rfl rfl rfl ?_
       exact o_sub (Sub.cons rfl (Sub.skip rfl (Sub.skip rfl (Sub.skip rfl (Sub.skip rfl (Sub.skip rfl (Sub.refl _))))))) hk
      ·intro hb74 hk
       refine o_guard_no rfl 126 rfl rfl rfl rfl rfl ?_
       refine o_guard_no rfl 126 rfl rfl rfl rfl rfl ?_
       refine o_guard_no rfl 126 rfl rfl rfl rfl rfl ?_
       refine o_pf (v := .bool false) rfl rfl rfl ?_
       exact o_sub (Sub.cons rfl (Sub.skip rfl (Sub.skip rfl (Sub.skip rfl (Sub.skip rfl (Sub.skip rfl (Sub.refl _))))))) hk
      refine o_mv (v := .bool (((Lfu.check u) == (Lfu.check u)) && (decide (((Lfu.access u key).1) = (⟨0, []⟩ : DUses))))) rfl rfl ?_
      refine o_and (p := 135) 4 (((Lfu.access u key).2.1) == false) ?_ ?_ ?_
      ·intro hb75 hk
       simp only [Bool.and_eq_true, beq_iff_eq, decide_eq_true_eq] at hb75
       refine o_unguard 131 rfl rfl ?_
       refine o_mv (v := .bool ((Lfu.access u key).2.1)) rfl rfl ?_
       refine o_unguard 131 rfl rfl ?_
       refine o_mv (v := .bool false) rfl rfl ?_
       refine o_unguard 131 rfl rfl ?_
       refine o_pure (p_eqBool (b := ((Lfu.access u key).2.1)) (c := false) rfl rfl Try.underlying4) rfl rfl rfl ?_
       refine o_pt (v := .bool (((Lfu.access u key).2.1) == false)) rfl rfl rfl ?_
       exact o_sub (Sub.cons rfl (Sub.skip rfl (Sub.skip rfl (Sub.skip rfl (Sub.skip rfl (Sub.skip rfl (Sub.refl _))))))) hk
      ·intro hb75 hk
       refine o_guard_no rfl 131 rfl rfl rfl rfl rfl ?_
       refine o_guard_no rfl 131 rfl rfl rfl rfl rfl ?_
       refine o_guard_no rfl 131 rfl rfl rfl rfl rfl ?_
       refine o_pf (v := .bool false) rfl rfl rfl ?_
       exact o_sub (Sub.cons rfl (Sub.skip rfl (Sub.skip rfl (Sub.skip rfl (Sub.skip rfl (Sub.skip rfl (Sub.refl _))))))) hk
      refine o_mv (v := .bool ((((Lfu.check u) == (Lfu.check u)) && (decide (((Lfu.access u key).1) = (⟨0, []⟩ : DUses)))) && (((Lfu.access u key).2.1) == false))) rfl rfl ?_
      refine o_and (p := 140) 4 (((Lfu.access u key).2.2) == 0) ?_ ?_ ?_
      ·intro hb76 hk
       simp only [Bool.and_eq_true, beq_iff_eq, decide_eq_true_eq] at hb76
       refine o_unguard 136 rfl rfl ?_
       refine o_mv (v := .int .i64 ((Lfu.access u key).2.2)) rfl rfl ?_
       refine o_unguard 136 rfl rfl ?_
       refine o_mv (v := .int .i64 0) rfl rfl ?_
       refine o_unguard 136 rfl rfl ?_
       refine o_pure (p_eq (p := ((Lfu.access u key).2.2)) (q := 0) rfl rfl) rfl rfl rfl ?_
       refine o_pt (v := .bool (((Lfu.access u key).2.2) == 0)) rfl rfl rfl ?_
       exact o_sub (Sub.cons rfl (Sub.skip rfl (Sub.skip rfl (Sub.skip rfl (Sub.skip rfl (Sub.skip rfl (Sub.refl _))))))) hk
      ·intro hb76 hk
       refine o_guard_no rfl 136 rfl rfl rfl rfl rfl ?_
       refine o_guard_no rfl 136 rfl rfl rfl rfl rfl ?_
       refine o_guard_no rfl 136 rfl rfl rfl rfl rfl ?_
       refine o_pf (v := .bool false) rfl rfl rfl ?_
       exact o_sub (Sub.cons rfl (Sub.skip rfl (Sub.skip rfl (Sub.skip rfl (Sub.skip rfl (Sub.skip rfl (Sub.refl _))))))) hk
      refine o_mv (v := .bool (((((Lfu.check u) == (Lfu.check u)) && (decide (((Lfu.access u key).1) = (⟨0, []⟩ : DUses)))) && (((Lfu.access u key).2.1) == false)) && (((Lfu.access u key).2.2) == 0))) rfl rfl ?_
      refine o_and (p := 145) 4 ((Lfu.accessErr u key) == 3) ?_ ?_ ?_
      ·intro hb77 hk
       simp only [Bool.and_eq_true, beq_iff_eq, decide_eq_true_eq] at hb77
       refine o_unguard 141 rfl rfl ?_
       refine o_mv (v := .int .i64 (Lfu.accessErr u key)) rfl rfl ?_
       refine o_unguard 141 rfl rfl ?_
       refine o_mv (v := .int .i64 3) rfl rfl ?_
       refine o_unguard 141 rfl rfl ?_
       refine o_pure (p_eq (p := (Lfu.accessErr u key)) (q := 3) rfl rfl) rfl rfl rfl ?_
       refine o_pt (v := .bool ((Lfu.accessErr u key) == 3)) rfl rfl rfl ?_
       exact o_sub (Sub.cons rfl (Sub.skip rfl (Sub.skip rfl (Sub.skip rfl (Sub.skip rfl (Sub.skip rfl (Sub.refl _))))))) hk
      ·intro hb77 hk
       refine o_guard_no rfl 141 rfl rfl rfl rfl rfl ?_
       refine o_guard_no rfl 141 rfl rfl rfl rfl rfl ?_
       refine o_guard_no rfl 141 rfl rfl rfl rfl rfl ?_
       refine o_pf (v := .bool false) rfl rfl rfl ?_
       exact o_sub (Sub.cons rfl (Sub.skip rfl (Sub.skip rfl (Sub.skip rfl (Sub.skip rfl (Sub.skip rfl (Sub.refl _))))))) hk
      refine o_mv (v := .bool ((((((Lfu.check u) == (Lfu.check u)) && (decide (((Lfu.access u key).1) = (⟨0, []⟩ : DUses)))) && (((Lfu.access u key).2.1) == false)) && (((Lfu.access u key).2.2) == 0)) && ((Lfu.accessErr u key) == 3))) rfl rfl ?_
      refine o_and (p := 150) 4 (decide (((Lfu.run u l).1) = (⟨0, []⟩ : DUses))) ?_ ?_ ?_
      ·intro hb78 hk
       simp only [Bool.and_eq_true, beq_iff_eq, decide_eq_true_eq] at hb78
       refine o_unguard 146 rfl rfl ?_
       refine o_pure (p_load_agg (i := 6) (vs := [.int .i64 (((Lfu.run u l).1).room), .slice a10 (((Lfu.run u l).1).list).length c11]) rfl rfl sh24 rfl rfl) rfl rfl rfl ?_
       refine o_unguard 146 rfl rfl ?_
       refine o_pure (p_load_agg (i := 2) (vs := [.int .i64 0, .slice none 0 0]) rfl rfl sh24 rfl rfl) rfl rfl rfl ?_
       refine o_unguard 146 rfl rfl ?_
       refine o_call0 (v := .bool (decide (((Lfu.run u l).1) = (⟨0, []⟩ : DUses)))) rfl (sameUses_ok ((Lfu.run u l).1) a10 c11 (⟨0, []⟩ : DUses) none 0) hf26 (fun w hw => ⟨(rd_own (i := 7) rfl) w hw, rd_nil w hw⟩) rfl ?_
       refine o_pt (v := .bool (decide (((Lfu.run u l).1) = (⟨0, []⟩ : DUses)))) rfl rfl rfl ?_
       exact o_sub (Sub.cons rfl (Sub.skip rfl (Sub.skip rfl (Sub.skip rfl (Sub.skip rfl (Sub.skip rfl (Sub.refl _))))))) hk
      ·intro hb78 hk
       refine o_guard_no rfl 146 rfl rfl rfl rfl rfl ?_
       refine o_guard_no rfl 146 rfl rfl rfl rfl rfl ?_
       refine o_guard_no rfl 146 rfl rfl rfl rfl rfl ?_
       refine o_pf (v := .bool false) rfl rfl rfl ?_
       exact o_sub (Sub.cons rfl (Sub.skip rfl (Sub.skip rfl (Sub.skip rfl (Sub.skip rfl (Sub.skip rfl (Sub.refl _))))))) hk
      refine o_mv (v := .bool (((((((Lfu.check u) == (Lfu.check u)) && (decide (((Lfu.access u key).1) = (⟨0, []⟩ : DUses)))) && (((Lfu.access u key).2.1) == false)) && (((Lfu.access u key).2.2) == 0)) && ((Lfu.accessErr u key) == 3)) && (decide (((Lfu.run u l).1) = (⟨0, []⟩ : DUses))))) rfl rfl ?_
      refine o_and (p := 155) 4 (((Lfu.run u l).2) == 0) ?_ ?_ ?_
      ·intro hb79 hk
       simp only [Bool.and_eq_true, beq_iff_eq, decide_eq_true_eq] at hb79
       refine o_unguard 151 rfl rfl ?_
       refine o_mv (v := .int .i64 ((Lfu.run u l).2)) rfl rfl ?_
       refine o_unguard 151 rfl rfl ?_
       refine o_mv (v := .int .i64 0) rfl rfl ?_
       refine o_unguard 151 rfl rfl ?_
       refine o_pure (p_eq (p := ((Lfu.run u l).2)) (q := 0) rfl rfl) rfl rfl rfl ?_
       refine o_pt (v := .bool (((Lfu.run u l).2) == 0)) rfl rfl rfl ?_
       exact o_sub (Sub.cons rfl (Sub.skip rfl (Sub.skip rfl (Sub.skip rfl (Sub.skip rfl (Sub.skip rfl (Sub.refl _))))))) hk
      ·intro hb79 hk
       refine o_guard_no rfl 151 rfl rfl rfl rfl rfl ?_
       refine o_guard_no rfl 151 rfl rfl rfl rfl rfl ?_
       refine o_guard_no rfl 151 rfl rfl rfl rfl rfl ?_
       refine o_pf (v := .bool false) rfl rfl rfl ?_
       exact o_sub (Sub.cons rfl (Sub.skip rfl (Sub.skip rfl (Sub.skip rfl (Sub.skip rfl (Sub.skip rfl (Sub.refl _))))))) hk
      refine o_mv (v := .bool ((((((((Lfu.check u) == (Lfu.check u)) && (decide (((Lfu.access u key).1) = (⟨0, []⟩ : DUses)))) && (((Lfu.access u key).2.1) == false)) && (((Lfu.access u key).2.2) == 0)) && ((Lfu.accessErr u key) == 3)) && (decide (((Lfu.run u l).1) = (⟨0, []⟩ : DUses)))) && (((Lfu.run u l).2) == 0))) rfl rfl ?_
      refine o_and (p := 160) 4 ((Lfu.runErr u l) == (Lru.trace l)) ?_ ?_ ?_
      ·intro hb80 hk
       simp only [Bool.and_eq_true, beq_iff_eq, decide_eq_true_eq] at hb80
       refine o_unguard 156 rfl rfl ?_
       refine o_mv (v := .int .i64 (Lfu.runErr u l)) rfl rfl ?_
       refine o_unguard 156 rfl rfl ?_
       refine o_mv (v := .int .i64 (Lru.trace l)) rfl rfl ?_
       refine o_unguard 156 rfl rfl ?_
       refine o_pure (p_eq (p := (Lfu.runErr u l)) (q := (Lru.trace l)) rfl rfl) rfl rfl rfl ?_
       refine o_pt (v := .bool ((Lfu.runErr u l) == (Lru.trace l))) rfl rfl rfl ?_
       exact o_sub (Sub.cons rfl (Sub.skip rfl (Sub.skip rfl (Sub.skip rfl (Sub.skip rfl (Sub.skip rfl (Sub.refl _))))))) hk
      ·intro hb80 hk
       refine o_guard_no rfl 156 rfl rfl rfl rfl rfl ?_
       refine o_guard_no rfl 156 rfl rfl rfl rfl rfl ?_
       refine o_guard_no rfl 156 rfl rfl rfl rfl rfl ?_
       refine o_pf (v := .bool false) rfl rfl rfl ?_
       exact o_sub (Sub.cons rfl (Sub.skip rfl (Sub.skip rfl (Sub.skip rfl (Sub.skip rfl (Sub.skip rfl (Sub.refl _))))))) hk
      refine o_mv (v := .bool (((((((((Lfu.check u) == (Lfu.check u)) && (decide (((Lfu.access u key).1) = (⟨0, []⟩ : DUses)))) && (((Lfu.access u key).2.1) == false)) && (((Lfu.access u key).2.2) == 0)) && ((Lfu.accessErr u key) == 3)) && (decide (((Lfu.run u l).1) = (⟨0, []⟩ : DUses)))) && (((Lfu.run u l).2) == 0)) && ((Lfu.runErr u l) == (Lru.trace l)))) rfl rfl ?_
      refine o_and (p := 165) 4 (decide ((Lfu.age u) = ag)) ?_ ?_ ?_
      ·intro hb81 hk
       simp only [Bool.and_eq_true, beq_iff_eq, decide_eq_true_eq] at hb81
       refine o_unguard 161 rfl rfl ?_
       refine o_pure (p_load_agg (i := 4) (vs := [.int .i64 ((Lfu.age u).room), .slice a16 ((Lfu.age u).list).length c17]) rfl rfl sh24 rfl rfl) rfl rfl rfl ?_
       refine o_unguard 161 rfl rfl ?_
       refine o_pure (p_load_agg (i := 1) (vs := [.int .i64 ag.room, .slice aag_0 ag.list.length cag_0]) rfl rfl sh24 rfl rfl) rfl rfl rfl ?_
       refine o_unguard 161 rfl rfl ?_
       refine o_call0 (v := .bool (decide ((Lfu.age u) = ag))) rfl (sameUses_ok (Lfu.age u) a16 c17 ag aag_0 cag_0) hf26 (fun w hw => ⟨(rd_own (i := 5) rfl) w hw, (rd_own (i := 0) rfl) w hw⟩) rfl ?_
       refine o_pt (v := .bool (decide ((Lfu.age u) = ag))) rfl rfl rfl ?_
       exact o_sub (Sub.cons rfl (Sub.skip rfl (Sub.skip rfl (Sub.skip rfl (Sub.skip rfl (Sub.skip rfl (Sub.refl _))))))) hk
      ·intro hb81 hk
       refine o_guard_no rfl 161 rfl rfl rfl rfl rfl ?_
       refine o_guard_no rfl 161 rfl rfl rfl rfl rfl ?_
       refine o_guard_no rfl 161 rfl rfl rfl rfl rfl ?_
       refine o_pf (v := .bool false) rfl rfl rfl ?_
       exact o_sub (Sub.cons rfl (Sub.skip rfl (Sub.skip rfl (Sub.skip rfl (Sub.skip rfl (Sub.skip rfl (Sub.refl _))))))) hk
      refine o_mv (v := .bool ((((((((((Lfu.check u) == (Lfu.check u)) && (decide (((Lfu.access u key).1) = (⟨0, []⟩ : DUses)))) && (((Lfu.access u key).2.1) == false)) && (((Lfu.access u key).2.2) == 0)) && ((Lfu.accessErr u key) == 3)) && (decide (((Lfu.run u l).1) = (⟨0, []⟩ : DUses)))) && (((Lfu.run u l).2) == 0)) && ((Lfu.runErr u l) == (Lru.trace l))) && (decide ((Lfu.age u) = ag)))) rfl rfl ?_
      refine o_and (p := 170) 4 ((Lfu.check u) == (Lfu.check u)) ?_ ?_ ?_
      ·intro hb82 hk
       simp only [Bool.and_eq_true, beq_iff_eq, decide_eq_true_eq] at hb82
       refine o_unguard 166 rfl rfl ?_
       refine o_mv (v := .int .i64 (Lfu.check u)) rfl rfl ?_
       refine o_unguard 166 rfl rfl ?_
       refine o_mv (v := .int .i64 (Lfu.check u)) rfl rfl ?_
       refine o_unguard 166 rfl rfl ?_
       refine o_pure (p_eq (p := (Lfu.check u)) (q := (Lfu.check u)) rfl rfl) rfl rfl rfl ?_
       refine o_pt (v := .bool ((Lfu.check u) == (Lfu.check u))) rfl rfl rfl ?_
       exact o_sub (Sub.cons rfl (Sub.skip rfl (Sub.skip rfl (Sub.skip rfl (Sub.skip rfl (Sub.skip rfl (Sub.refl _))))))) hk
      ·intro hb82 hk
       refine o_guard_no rfl 166 rfl rfl rfl rfl rfl ?_
       refine o_guard_no rfl 166 rfl rfl rfl rfl rfl ?_
       refine o_guard_no rfl 166 rfl rfl rfl rfl rfl ?_
       refine o_pf (v := .bool false) rfl rfl rfl ?_
       exact o_sub (Sub.cons rfl (Sub.skip rfl (Sub.skip rfl (Sub.skip rfl (Sub.skip rfl (Sub.skip rfl (Sub.refl _))))))) hk
      refine o_mv (v := .bool (((((((((((Lfu.check u) == (Lfu.check u)) && (decide (((Lfu.access u key).1) = (⟨0, []⟩ : DUses)))) && (((Lfu.access u key).2.1) == false)) && (((Lfu.access u key).2.2) == 0)) && ((Lfu.accessErr u key) == 3)) && (decide (((Lfu.run u l).1) = (⟨0, []⟩ : DUses)))) && (((Lfu.run u l).2) == 0)) && ((Lfu.runErr u l) == (Lru.trace l))) && (decide ((Lfu.age u) = ag))) && ((Lfu.check u) == (Lfu.check u)))) rfl rfl ?_
      refine o_and (p := 175) 4 ((Lfu.victim u) == ((u.list.getD (Lfu.least u.list) default).key)) ?_ ?_ ?_
      ·intro hb83 hk
       simp only [Bool.and_eq_true, beq_iff_eq, decide_eq_true_eq] at hb83
       refine o_unguard 171 rfl rfl ?_
       refine o_mv (v := .int .i64 (Lfu.victim u)) rfl rfl ?_
       refine o_unguard 171 rfl rfl ?_
       refine o_mv (v := .int .i64 ((u.list.getD (Lfu.least u.list) default).key)) rfl rfl ?_
       refine o_unguard 171 rfl rfl ?_
       refine o_pure (p_eq (p := (Lfu.victim u)) (q := ((u.list.getD (Lfu.least u.list) default).key)) rfl rfl) rfl rfl rfl ?_
       refine o_pt (v := .bool ((Lfu.victim u) == ((u.list.getD (Lfu.least u.list) default).key))) rfl rfl rfl ?_
       exact o_sub (Sub.cons rfl (Sub.skip rfl (Sub.skip rfl (Sub.skip rfl (Sub.skip rfl (Sub.skip rfl (Sub.refl _))))))) hk
      ·intro hb83 hk
       refine o_guard_no rfl 171 rfl rfl rfl rfl rfl ?_
       refine o_guard_no rfl 171 rfl rfl rfl rfl rfl ?_
       refine o_guard_no rfl 171 rfl rfl rfl rfl rfl ?_
       refine o_pf (v := .bool false) rfl rfl rfl ?_
       exact o_sub (Sub.cons rfl (Sub.skip rfl (Sub.skip rfl (Sub.skip rfl (Sub.skip rfl (Sub.skip rfl (Sub.refl _))))))) hk
      refine o_mv (v := .bool ((((((((((((Lfu.check u) == (Lfu.check u)) && (decide (((Lfu.access u key).1) = (⟨0, []⟩ : DUses)))) && (((Lfu.access u key).2.1) == false)) && (((Lfu.access u key).2.2) == 0)) && ((Lfu.accessErr u key) == 3)) && (decide (((Lfu.run u l).1) = (⟨0, []⟩ : DUses)))) && (((Lfu.run u l).2) == 0)) && ((Lfu.runErr u l) == (Lru.trace l))) && (decide ((Lfu.age u) = ag))) && ((Lfu.check u) == (Lfu.check u))) && ((Lfu.victim u) == ((u.list.getD (Lfu.least u.list) default).key)))) rfl rfl ?_
      refine o_and (p := 180) 4 ((Lfu.victimErr u) == (Lfu.check u)) ?_ ?_ ?_
      ·intro hb84 hk
       simp only [Bool.and_eq_true, beq_iff_eq, decide_eq_true_eq] at hb84
       refine o_unguard 176 rfl rfl ?_
       refine o_mv (v := .int .i64 (Lfu.victimErr u)) rfl rfl ?_
       refine o_unguard 176 rfl rfl ?_
       refine o_mv (v := .int .i64 (Lfu.check u)) rfl rfl ?_
       refine o_unguard 176 rfl rfl ?_
       refine o_pure (p_eq (p := (Lfu.victimErr u)) (q := (Lfu.check u)) rfl rfl) rfl rfl rfl ?_
       refine o_pt (v := .bool ((Lfu.victimErr u) == (Lfu.check u))) rfl rfl rfl ?_
       exact o_sub (Sub.cons rfl (Sub.skip rfl (Sub.skip rfl (Sub.skip rfl (Sub.skip rfl (Sub.skip rfl (Sub.refl _))))))) hk
      ·intro hb84 hk
       refine o_guard_no rfl 176 rfl rfl rfl rfl rfl ?_
       refine o_guard_no rfl 176 rfl rfl rfl rfl rfl ?_
       refine o_guard_no rfl 176 rfl rfl rfl rfl rfl ?_
       refine o_pf (v := .bool false) rfl rfl rfl ?_
       exact o_sub (Sub.cons rfl (Sub.skip rfl (Sub.skip rfl (Sub.skip rfl (Sub.skip rfl (Sub.skip rfl (Sub.refl _))))))) hk
      refine o_pure (p_assign (v := .bool (((((((((((((Lfu.check u) == (Lfu.check u)) && (decide (((Lfu.access u key).1) = (⟨0, []⟩ : DUses)))) && (((Lfu.access u key).2.1) == false)) && (((Lfu.access u key).2.2) == 0)) && ((Lfu.accessErr u key) == 3)) && (decide (((Lfu.run u l).1) = (⟨0, []⟩ : DUses)))) && (((Lfu.run u l).2) == 0)) && ((Lfu.runErr u l) == (Lru.trace l))) && (decide ((Lfu.age u) = ag))) && ((Lfu.check u) == (Lfu.check u))) && ((Lfu.victim u) == ((u.list.getD (Lfu.least u.list) default).key))) && ((Lfu.victimErr u) == (Lfu.check u)))) rfl) rfl rfl rfl ?_
      refine o_nil ?_
      refine q_then ?_
      refine c_ret ?_
      have hr0 : ((((((((((((((Lfu.check u) == (Lfu.check u)) && (decide (((Lfu.access u key).1) = (⟨0, []⟩ : DUses)))) && (((Lfu.access u key).2.1) == false)) && (((Lfu.access u key).2.2) == 0)) && ((Lfu.accessErr u key) == 3)) && (decide (((Lfu.run u l).1) = (⟨0, []⟩ : DUses)))) && (((Lfu.run u l).2) == 0)) && ((Lfu.runErr u l) == (Lru.trace l))) && (decide ((Lfu.age u) = ag))) && ((Lfu.check u) == (Lfu.check u))) && ((Lfu.victim u) == ((u.list.getD (Lfu.least u.list) default).key))) && ((Lfu.victimErr u) == (Lfu.check u))) : Bool) = true := by
       rcases Lfu.acc_num u key with ⟨a0, a1, a2⟩ | ⟨a0, a3, a1, a2⟩ | ⟨a0, a3, a1, a2⟩ <;> rcases Lfu.run_cases u l with ⟨b0, b1, b2⟩ | ⟨b0, b3, b1, b2⟩ | ⟨b0, b3, b1, b2⟩ <;> rcases Lfu.vic_cases u with ⟨s0, s1, s2⟩ | ⟨s0, s3, s1, s2⟩ | ⟨s0, s3, s1, s2⟩ <;> first | (exfalso; omega) | (rw [a1, a2, b1, b2, s1, s2]; first | (simp [Lfu.zero, Lfu.age, a0]; done) | (simp [Lfu.zero, Lfu.age, a0, b3]; done) | (have hag := Lfu.age_of hI.1 (hI.2.done (by omega)); rw [hag]; simp [Lfu.zero, Lfu.age, a0, b3]; done))
      refine q_end0 (v := .bool (((((((((((((Lfu.check u) == (Lfu.check u)) && (decide (((Lfu.access u key).1) = (⟨0, []⟩ : DUses)))) && (((Lfu.access u key).2.1) == false)) && (((Lfu.access u key).2.2) == 0)) && ((Lfu.accessErr u key) == 3)) && (decide (((Lfu.run u l).1) = (⟨0, []⟩ : DUses)))) && (((Lfu.run u l).2) == 0)) && ((Lfu.runErr u l) == (Lru.trace l))) && (decide ((Lfu.age u) = ag))) && ((Lfu.check u) == (Lfu.check u))) && ((Lfu.victim u) == ((u.list.getD (Lfu.least u.list) default).key))) && ((Lfu.victimErr u) == (Lfu.check u)))) (rt1 rfl (r_tmp rfl)) (i := 11) rfl ?_
      exact (by have hcc := congrArg (fun (y0 : Bool) => (.bool y0 : Value)) hr0; exact hcc)
  ·simp only [Bool.or_eq_false_iff, decide_eq_false_iff_not, Int.not_lt] at hc25
   refine c_region ?_
   refine o_pure (p_load_agg (i := 9) (vs := [.int .i64 u.room, .slice au_0 u.list.length cu_0]) rfl rfl sh24 rfl rfl) rfl rfl rfl ?_
   refine o_mv (v := .int .i64 key) rfl rfl ?_
   refine o_callM rfl (rftouch_ok u au_0 cu_0 key (by first | assumption | exact hI.ok | omega)) hf20 (fun w hw => (rd_base (i := 10) rfl hu_0) w hw) rfl (fun _ _ _ _ ha hA => SlO.agree ha hA) ?_
   rintro ⟨a87, c88⟩ S85
   refine o_know (fun w hw => own_len (i := 0) (T := tUse) hw rfl) (fun hlr89 => ?_)
   refine o_mv (v := .tuple #[.agg #[.int .i64 (((Lfu.touch u key).1).room), .slice a87 (((Lfu.touch u key).1).list).length c88], .bool ((Lfu.touch u key).2.1), .int .i64 ((Lfu.touch u key).2.2)]) rfl rfl ?_
   refine o_pure (p_extract (vs := [.agg #[.int .i64 (((Lfu.touch u key).1).room), .slice a87 (((Lfu.touch u key).1).list).length c88], .bool ((Lfu.touch u key).2.1), .int .i64 ((Lfu.touch u key).2.2)]) (v := .agg #[.int .i64 (((Lfu.touch u key).1).room), .slice a87 (((Lfu.touch u key).1).list).length c88]) rfl rfl) rfl rfl rfl ?_
   refine o_pure (p_extract (vs := [.agg #[.int .i64 (((Lfu.touch u key).1).room), .slice a87 (((Lfu.touch u key).1).list).length c88], .bool ((Lfu.touch u key).2.1), .int .i64 ((Lfu.touch u key).2.2)]) (v := .bool ((Lfu.touch u key).2.1)) rfl rfl) rfl rfl rfl ?_
   refine o_pure (p_extract (vs := [.agg #[.int .i64 (((Lfu.touch u key).1).room), .slice a87 (((Lfu.touch u key).1).list).length c88], .bool ((Lfu.touch u key).2.1), .int .i64 ((Lfu.touch u key).2.2)]) (v := .int .i64 ((Lfu.touch u key).2.2)) rfl rfl) rfl rfl rfl ?_
   refine o_storeN (i := 3) (vs := [.int .i64 (((Lfu.touch u key).1).room), .slice a87 (((Lfu.touch u key).1).list).length c88]) (cs' := [.int .i64 (((Lfu.touch u key).1).room), .slice a87 (((Lfu.touch u key).1).list).length c88]) rfl rfl rfl sz24 rfl rfl rfl rfl ?_
   refine o_pure (p_assign (v := .bool ((Lfu.touch u key).2.1)) rfl) rfl rfl rfl ?_
   refine o_pure (p_assign (v := .int .i64 ((Lfu.touch u key).2.2)) rfl) rfl rfl rfl ?_
   refine o_nil ?_
   refine q_then ?_
   refine c_seq ?_
   refine c_seq ?_
   refine c_region ?_
   refine o_mv (v := .slice al l.length cl) rfl rfl ?_
   refine o_call0 (v := .int .i64 (Lru.trace l)) rfl (traceCheck_ok l al cl) hf21 (fun w hw => (rd_base (i := 11) rfl hl) w hw) rfl ?_
   refine o_pure (p_assign (v := .int .i64 (Lru.trace l)) rfl) rfl rfl rfl ?_
   refine o_nil ?_
   refine q_then ?_
   refine c_seq ?_
   refine c_region ?_
   refine o_mv (v := .int .i64 (Lru.trace l)) rfl rfl ?_
   refine o_pure (p_eq (p := (Lru.trace l)) (q := 0) rfl rfl) rfl rfl rfl ?_
   refine o_nil ?_
   refine q_then ?_
   refine c_cond (b := ((Lru.trace l) == 0)) rfl (fun hc90 => ?_) (fun hc90 => ?_)
   ·simp only [beq_iff_eq] at hc90
    have hkeys := (Lru.trace_ok.1 hc90).2
    refine c_region ?_
    refine o_pure (p_load_agg (i := 10) (vs := [.int .i64 u.room, .slice au_0 u.list.length cu_0]) rfl rfl sh24 rfl rfl) rfl rfl rfl ?_
    refine o_mv (v := .slice al l.length cl) rfl rfl ?_
    refine o_callM rfl (rfrun_ok u au_0 cu_0 l al cl (by first | assumption | exact ⟨hok, hkeys⟩)) hf22 (fun w hw => ⟨(rd_base (i := 11) rfl hu_0) w hw, (rd_base (i := 11) rfl hl) w hw⟩) rfl (fun _ _ _ _ ha hA => hA.imp (fun h => SlR.agree ha h) id) ?_
    rintro ⟨a93, c94⟩ S91
    refine o_mv (v := .tuple #[.agg #[.int .i64 (((Lfu.runGo u 0 l).1).room), .slice a93 (((Lfu.runGo u 0 l).1).list).length c94], .int .i64 ((Lfu.runGo u 0 l).2)]) rfl rfl ?_
    refine o_pure (p_extract (vs := [.agg #[.int .i64 (((Lfu.runGo u 0 l).1).room), .slice a93 (((Lfu.runGo u 0 l).1).list).length c94], .int .i64 ((Lfu.runGo u 0 l).2)]) (v := .agg #[.int .i64 (((Lfu.runGo u 0 l).1).room), .slice a93 (((Lfu.runGo u 0 l).1).list).length c94]) rfl rfl) rfl rfl rfl ?_
    refine o_pure (p_extract (vs := [.agg #[.int .i64 (((Lfu.runGo u 0 l).1).room), .slice a93 (((Lfu.runGo u 0 l).1).list).length c94], .int .i64 ((Lfu.runGo u 0 l).2)]) (v := .int .i64 ((Lfu.runGo u 0 l).2)) rfl rfl) rfl rfl rfl ?_
    refine o_storeN (i := 3) (vs := [.int .i64 (((Lfu.runGo u 0 l).1).room), .slice a93 (((Lfu.runGo u 0 l).1).list).length c94]) (cs' := [.int .i64 (((Lfu.runGo u 0 l).1).room), .slice a93 (((Lfu.runGo u 0 l).1).list).length c94]) rfl rfl rfl sz24 rfl rfl rfl rfl ?_
    refine o_pure (p_assign (v := .int .i64 ((Lfu.runGo u 0 l).2)) rfl) rfl rfl rfl ?_
    refine o_nil ?_
    refine q_then ?_
    refine c_seq ?_
    refine c_held hmix [loose tUse (a93 = au_0 ∧ c94 = cu_0 ∧ (((Lfu.runGo u 0 l).1).list) = u.list) S91 a93 c94 (((Lfu.runGo u 0 l).1).list), own tUse S85 a87 c88 (((Lfu.touch u key).1).list), box B21 [.int .i64 (((Lfu.runGo u 0 l).1).room), .slice a93 (((Lfu.runGo u 0 l).1).list).length c94] 24, box B20 [.int .i64 (((Lfu.touch u key).1).room), .slice a87 (((Lfu.touch u key).1).list).length c88] 24, box B19 [.int .i64 ((Lfu.age u).room), .slice a16 ((Lfu.age u).list).length c17] 24, own tUse S14 a16 c17 ((Lfu.age u).list), box B13 [.int .i64 (((Lfu.run u l).1).room), .slice a10 (((Lfu.run u l).1).list).length c11] 24, own tUse S8 a10 c11 (((Lfu.run u l).1).list), box B7 [.int .i64 (((Lfu.access u key).1).room), .slice a4 (((Lfu.access u key).1).list).length c5] 24, own tUse S2 a4 c5 (((Lfu.access u key).1).list), box B1 [.int .i64 u.room, .slice au_0 u.list.length cu_0] 24, base w0] rfl rfl ?_
    refine h_take (i := 0) (ls := #[true, false, false, false, false, false, false, false]) rfl (by kernel_rfl) (by kernel_rfl) (by kernel_rfl) (fun _ _ _ h => h) (p_fieldAddr (B := B1) (j := 0) (j' := 0) rfl fo24_0 rfl) rfl rfl rfl (fun _ hw => HeapIs.drop hw (List.Sublist.cons_cons _ (List.Sublist.cons_cons _ (List.Sublist.cons _ (List.Sublist.cons_cons _ (List.Sublist.cons_cons _ (List.Sublist.cons_cons _ (List.Sublist.cons_cons _ (List.Sublist.cons_cons _ (List.Sublist.cons_cons _ (List.Sublist.cons_cons _ (List.Sublist.cons_cons _ (List.Sublist.cons_cons _ (List.Sublist.cons_cons _ (List.Sublist.slnil))))))))))))))) rfl ?_
    refine h_take (i := 1) (ls := #[true, true, false, false, false, false, false, false]) rfl (by kernel_rfl) (by kernel_rfl) (by kernel_rfl) (fun _ _ _ h => h) (p_load (i := 10) (v := .int .i64 u.room) rfl rfl sh3 rfl) rfl rfl rfl (fun _ hw => HeapIs.drop hw (List.Sublist.cons_cons _ (List.Sublist.cons_cons _ (List.Sublist.cons _ (List.Sublist.cons_cons _ (List.Sublist.cons_cons _ (List.Sublist.cons_cons _ (List.Sublist.cons_cons _ (List.Sublist.cons_cons _ (List.Sublist.cons_cons _ (List.Sublist.cons_cons _ (List.Sublist.cons_cons _ (List.Sublist.cons_cons _ (List.Sublist.cons_cons _ (List.Sublist.slnil))))))))))))))) rfl ?_
    refine h_take (i := 3) (ls := #[true, true, false, true, false, false, false, false]) rfl (by kernel_rfl) (by kernel_rfl) (by kernel_rfl) (fun _ _ _ h => h) (p_fieldAddr (B := B1) (j := 0) (j' := 1) rfl fo24_1 rfl) rfl rfl rfl (fun _ hw => HeapIs.drop hw (List.Sublist.cons_cons _ (List.Sublist.cons_cons _ (List.Sublist.cons _ (List.Sublist.cons_cons _ (List.Sublist.cons_cons _ (List.Sublist.cons_cons _ (List.Sublist.cons_cons _ (List.Sublist.cons_cons _ (List.Sublist.cons_cons _ (List.Sublist.cons_cons _ (List.Sublist.cons_cons _ (List.Sublist.cons_cons _ (List.Sublist.cons_cons _ (List.Sublist.slnil))))))))))))))) rfl ?_
    refine h_take (i := 4) (ls := #[true, true, false, true, true, false, false, false]) rfl (by kernel_rfl) (by kernel_rfl) (by kernel_rfl) (fun _ _ _ h => h) (p_load (i := 10) (v := .slice au_0 u.list.length cu_0) rfl rfl sh22 rfl) rfl rfl rfl (fun _ hw => HeapIs.drop hw (List.Sublist.cons_cons _ (List.Sublist.cons_cons _ (List.Sublist.cons _ (List.Sublist.cons_cons _ (List.Sublist.cons_cons _ (List.Sublist.cons_cons _ (List.Sublist.cons_cons _ (List.Sublist.cons_cons _ (List.Sublist.cons_cons _ (List.Sublist.cons_cons _ (List.Sublist.cons_cons _ (List.Sublist.cons_cons _ (List.Sublist.cons_cons _ (List.Sublist.slnil))))))))))))))) rfl ?_
    refine h_one (i := 2) (ls := #[true, true, true, true, true, false, false, false]) (by kernel_rfl) rfl rfl ?_
    refine o_buildSlice (m := 0) (T := tUse) (L := []) (vs := []) rfl rfl rfl rfl Try.underlying22 sz42 (by decide) ze42 rfl (by decide) rfl (fun S95_2 a95_2 => ?_)
    refine o_nil ?_
    refine h_next (fun _ hw => HeapIs.drop hw (List.Sublist.cons _ (List.Sublist.cons_cons _ (List.Sublist.cons_cons _ (List.Sublist.cons _ (List.Sublist.cons_cons _ (List.Sublist.cons_cons _ (List.Sublist.cons_cons _ (List.Sublist.cons_cons _ (List.Sublist.cons_cons _ (List.Sublist.cons_cons _ (List.Sublist.cons_cons _ (List.Sublist.cons_cons _ (List.Sublist.cons_cons _ (List.Sublist.cons_cons _ (List.Sublist.slnil)))))))))))))))) ?_
    refine h_one (i := 5) (ls := #[true, true, true, true, true, true, false, false]) (by kernel_rfl) rfl rfl ?_
    refine o_append (i := 0) (L := []) (M := u.list) (T := tUse) rfl rfl rfl (rd_base (i := 13) rfl hu_0) Try.underlying22 Try.underlying22 (by intro k h; cases h) el42 (by intro z; simp [tUse, one1]) (by decide) (by first | omega | (simp only [List.length_cons, List.length_nil]; omega) | (simp only [List.length_append, List.length_cons, List.length_nil, List.length_take, List.length_drop]; omega)) rfl (fun a95_5 c95_5 S95_5 => ?_)
    refine o_nil ?_
    refine h_next (fun _ hw => HeapIs.drop hw (List.Sublist.cons _ (List.Sublist.cons_cons _ (List.Sublist.cons_cons _ (List.Sublist.cons _ (List.Sublist.cons_cons _ (List.Sublist.cons_cons _ (List.Sublist.cons_cons _ (List.Sublist.cons_cons _ (List.Sublist.cons_cons _ (List.Sublist.cons_cons _ (List.Sublist.cons_cons _ (List.Sublist.cons_cons _ (List.Sublist.cons_cons _ (List.Sublist.cons_cons _ (List.Sublist.slnil)))))))))))))))) ?_
    refine h_take (i := 6) (ls := #[true, true, true, true, true, true, true, false]) rfl (by kernel_rfl) (by kernel_rfl) (by kernel_rfl) (fun _ _ _ h => h) (p_build (cells := [.int .i64 u.room, .slice a95_5 u.list.length c95_5]) fp24 ze24 rfl rfl) rfl rfl rfl (fun _ hw => HeapIs.drop hw (List.Sublist.cons _ (List.Sublist.cons_cons _ (List.Sublist.cons_cons _ (List.Sublist.cons _ (List.Sublist.cons_cons _ (List.Sublist.cons_cons _ (List.Sublist.cons_cons _ (List.Sublist.cons_cons _ (List.Sublist.cons_cons _ (List.Sublist.cons_cons _ (List.Sublist.cons_cons _ (List.Sublist.cons_cons _ (List.Sublist.cons_cons _ (List.Sublist.cons_cons _ (List.Sublist.slnil)))))))))))))))) rfl ?_
    refine h_one (i := 7) (ls := #[true, true, true, true, true, true, true, true]) (by kernel_rfl) rfl rfl ?_
    refine o_storeN (i := 3) (vs := [.int .i64 u.room, .slice a95_5 u.list.length c95_5]) (cs' := [.int .i64 u.room, .slice a95_5 u.list.length c95_5]) rfl rfl rfl sz24 rfl rfl rfl rfl ?_
    refine o_nil ?_
    refine h_next (fun _ hw => HeapIs.drop hw (List.Sublist.cons _ (List.Sublist.cons_cons _ (List.Sublist.cons_cons _ (List.Sublist.cons _ (List.Sublist.cons_cons _ (List.Sublist.cons_cons _ (List.Sublist.cons_cons _ (List.Sublist.cons_cons _ (List.Sublist.cons_cons _ (List.Sublist.cons_cons _ (List.Sublist.cons_cons _ (List.Sublist.cons_cons _ (List.Sublist.cons_cons _ (List.Sublist.cons_cons _ (List.Sublist.slnil)))))))))))))))) ?_
    refine h_done (by kernel_rfl) ?_
    refine q_then ?_
    refine c_seq ?_
    refine c_seq ?_
    refine c_region ?_
    refine o_pure (p_assign (v := .int .i64 0) rfl) rfl rfl rfl ?_
    refine o_nil ?_
    refine q_then ?_
    refine c_block ?_
    refine c_loop (St := Nat × DUses × Option Addr × Nat × (Nat → Prop))
     (fun ⟨i, ag, aag_0, cag_0, Sag_0⟩ => [(3, .pointer (some ⟨B1, 0, none⟩)), (7, .pointer (some ⟨B7, 0, none⟩)), (8, .bool ((Lfu.access u key).2.1)), (9, .int .i64 ((Lfu.access u key).2.2)), (10, .int .i64 (Lfu.accessErr u key)), (11, .pointer (some ⟨B13, 0, none⟩)), (12, .int .i64 ((Lfu.run u l).2)), (13, .int .i64 (Lfu.runErr u l)), (14, .pointer (some ⟨B19, 0, none⟩)), (15, .int .i64 (Lfu.check u)), (16, .int .i64 (Lfu.victim u)), (17, .int .i64 (Lfu.victimErr u)), (18, .int .i64 (Lfu.check u)), (19, .int .i64 (Lfu.check u)), (20, .int .i64 (Lru.trace l)), (21, .int .i64 (Lfu.check u)), (22, .pointer (some ⟨B20, 0, none⟩)), (23, .pointer (some ⟨B21, 0, none⟩)), (24, .pointer (some ⟨B22, 0, none⟩)), (25, .bool ((Lfu.touch u key).2.1)), (26, .int .i64 ((Lfu.touch u key).2.2)), (27, .int .i64 ((Lfu.runGo u 0 l).2)), (28, .int .i64 0), (29, .int .i64 (i : Int))])
     (fun ⟨i, ag, aag_0, cag_0, Sag_0⟩ => [own tUse Sag_0 aag_0 cag_0 ag.list, loose tUse (a93 = au_0 ∧ c94 = cu_0 ∧ (((Lfu.runGo u 0 l).1).list) = u.list) S91 a93 c94 (((Lfu.runGo u 0 l).1).list), own tUse S85 a87 c88 (((Lfu.touch u key).1).list), box B22 [.int .i64 ag.room, .slice aag_0 ag.list.length cag_0] 24, box B21 [.int .i64 (((Lfu.runGo u 0 l).1).room), .slice a93 (((Lfu.runGo u 0 l).1).list).length c94] 24, box B20 [.int .i64 (((Lfu.touch u key).1).room), .slice a87 (((Lfu.touch u key).1).list).length c88] 24, box B19 [.int .i64 ((Lfu.age u).room), .slice a16 ((Lfu.age u).list).length c17] 24, own tUse S14 a16 c17 ((Lfu.age u).list), box B13 [.int .i64 (((Lfu.run u l).1).room), .slice a10 (((Lfu.run u l).1).list).length c11] 24, own tUse S8 a10 c11 (((Lfu.run u l).1).list), box B7 [.int .i64 (((Lfu.access u key).1).room), .slice a4 (((Lfu.access u key).1).list).length c5] 24, own tUse S2 a4 c5 (((Lfu.access u key).1).list), box B1 [.int .i64 u.room, .slice au_0 u.list.length cu_0] 24, base w0])
     (fun ⟨i, ag, aag_0, cag_0, Sag_0⟩ => ag.room = u.room ∧ Lfu.GInv u.list ag.list i)
     (fun ⟨i, ag, aag_0, cag_0, Sag_0⟩ => u.list.length - i)
     (0, u, a95_5, c95_5, S95_5) ?_ (Sub.cons rfl (Sub.cons rfl (Sub.cons rfl (Sub.cons rfl (Sub.cons rfl (Sub.cons rfl (Sub.cons rfl (Sub.cons rfl (Sub.cons rfl (Sub.cons rfl (Sub.cons rfl (Sub.cons rfl (Sub.cons rfl (Sub.cons rfl (Sub.cons rfl (Sub.cons rfl (Sub.cons rfl (Sub.cons rfl (Sub.cons rfl (Sub.cons rfl (Sub.cons rfl (Sub.cons rfl (Sub.cons rfl (Sub.cons rfl (Sub.nil _))))))))))))))))))))))))) (fun _ hw => hw) ?_
    ·exact ⟨rfl, Lfu.GInv.start _⟩
    rintro ⟨i, ag, aag_0, cag_0, Sag_0⟩ hI K hK96
    have hul := hI.2.len
    show SC _ _ Try.prog 181 w0 _ _ [(3, .pointer (some ⟨B1, 0, none⟩)), (7, .pointer (some ⟨B7, 0, none⟩)), (8, .bool ((Lfu.access u key).2.1)), (9, .int .i64 ((Lfu.access u key).2.2)), (10, .int .i64 (Lfu.accessErr u key)), (11, .pointer (some ⟨B13, 0, none⟩)), (12, .int .i64 ((Lfu.run u l).2)), (13, .int .i64 (Lfu.runErr u l)), (14, .pointer (some ⟨B19, 0, none⟩)), (15, .int .i64 (Lfu.check u)), (16, .int .i64 (Lfu.victim u)), (17, .int .i64 (Lfu.victimErr u)), (18, .int .i64 (Lfu.check u)), (19, .int .i64 (Lfu.check u)), (20, .int .i64 (Lru.trace l)), (21, .int .i64 (Lfu.check u)), (22, .pointer (some ⟨B20, 0, none⟩)), (23, .pointer (some ⟨B21, 0, none⟩)), (24, .pointer (some ⟨B22, 0, none⟩)), (25, .bool ((Lfu.touch u key).2.1)), (26, .int .i64 ((Lfu.touch u key).2.2)), (27, .int .i64 ((Lfu.runGo u 0 l).2)), (28, .int .i64 0), (29, .int .i64 (i : Int))] [own tUse Sag_0 aag_0 cag_0 ag.list, loose tUse (a93 = au_0 ∧ c94 = cu_0 ∧ (((Lfu.runGo u 0 l).1).list) = u.list) S91 a93 c94 (((Lfu.runGo u 0 l).1).list), own tUse S85 a87 c88 (((Lfu.touch u key).1).list), box B22 [.int .i64 ag.room, .slice aag_0 ag.list.length cag_0] 24, box B21 [.int .i64 (((Lfu.runGo u 0 l).1).room), .slice a93 (((Lfu.runGo u 0 l).1).list).length c94] 24, box B20 [.int .i64 (((Lfu.touch u key).1).room), .slice a87 (((Lfu.touch u key).1).list).length c88] 24, box B19 [.int .i64 ((Lfu.age u).room), .slice a16 ((Lfu.age u).list).length c17] 24, own tUse S14 a16 c17 ((Lfu.age u).list), box B13 [.int .i64 (((Lfu.run u l).1).room), .slice a10 (((Lfu.run u l).1).list).length c11] 24, own tUse S8 a10 c11 (((Lfu.run u l).1).list), box B7 [.int .i64 (((Lfu.access u key).1).room), .slice a4 (((Lfu.access u key).1).list).length c5] 24, own tUse S2 a4 c5 (((Lfu.access u key).1).list), box B1 [.int .i64 u.room, .slice au_0 u.list.length cu_0] 24, base w0]
    refine c_seq ?_
    refine c_seq ?_
    refine c_region ?_
    refine o_mv (v := .int .i64 (i : Int)) rfl rfl ?_
    refine o_pure (p_fieldAddr (B := B22) (j := 0) (j' := 1) rfl fo24_1 rfl) rfl rfl rfl ?_
    refine o_pure (p_load (i := 3) (v := .slice aag_0 ag.list.length cag_0) rfl rfl sh22 rfl) rfl rfl rfl ?_
    refine o_pure (p_len_slice (len := ag.list.length) rfl rfl Try.underlying22) rfl rfl rfl ?_
    refine o_pure (p_lt (p := (i : Int)) (q := (ag.list.length : Int)) rfl rfl) rfl rfl rfl ?_
    refine o_nil ?_
    refine q_then ?_
    refine c_cond (b := decide ((i : Int) < (ag.list.length : Int))) rfl (fun hc97 => ?_) (fun hc97 => ?_)
    ·simp only [decide_eq_true_eq] at hc97
     have hcb := hI.2.cnt hok (by omega)
     have hhb := Lfu.half_bd hcb
     refine c_skip ?_
     refine q_then ?_
     refine c_seq ?_
     refine c_block ?_
     refine c_held hmix [ownE tUse Sag_0 aag_0 cag_0 (ag.list.length), loose tUse (a93 = au_0 ∧ c94 = cu_0 ∧ (((Lfu.runGo u 0 l).1).list) = u.list) S91 a93 c94 (((Lfu.runGo u 0 l).1).list), own tUse S85 a87 c88 (((Lfu.touch u key).1).list), box B22 [.int .i64 ag.room, .slice aag_0 ag.list.length cag_0] 24, box B21 [.int .i64 (((Lfu.runGo u 0 l).1).room), .slice a93 (((Lfu.runGo u 0 l).1).list).length c94] 24, box B20 [.int .i64 (((Lfu.touch u key).1).room), .slice a87 (((Lfu.touch u key).1).list).length c88] 24, box B19 [.int .i64 ((Lfu.age u).room), .slice a16 ((Lfu.age u).list).length c17] 24, own tUse S14 a16 c17 ((Lfu.age u).list), box B13 [.int .i64 (((Lfu.run u l).1).room), .slice a10 (((Lfu.run u l).1).list).length c11] 24, own tUse S8 a10 c11 (((Lfu.run u l).1).list), box B7 [.int .i64 (((Lfu.access u key).1).room), .slice a4 (((Lfu.access u key).1).list).length c5] 24, own tUse S2 a4 c5 (((Lfu.access u key).1).list), box B1 [.int .i64 u.room, .slice au_0 u.list.length cu_0] 24, base w0] rfl rfl ?_
     refine h_take (i := 0) (ls := #[true, false, false, false, false, false, false, false, false, false, false, false, false, false]) rfl (by kernel_rfl) (by kernel_rfl) (by kernel_rfl) (fun _ _ _ h => h) (p_fieldAddr (B := B22) (j := 0) (j' := 1) rfl fo24_1 rfl) rfl rfl rfl (fun _ hw => HeapIs.drop (HeapIs.toE (i := 0) (m := ag.list.length) (T := tUse) rfl (by simp only [List.length_set]) hw) (List.Sublist.refl _)) rfl ?_
     refine h_take (i := 1) (ls := #[true, true, false, false, false, false, false, false, false, false, false, false, false, false]) rfl (by kernel_rfl) (by kernel_rfl) (by kernel_rfl) (fun _ _ _ h => h) (p_load (i := 3) (v := .slice aag_0 ag.list.length cag_0) rfl rfl sh22 rfl) rfl rfl rfl (fun _ hw => HeapIs.drop (HeapIs.toE (i := 0) (m := ag.list.length) (T := tUse) rfl (by simp only [List.length_set]) hw) (List.Sublist.refl _)) rfl ?_
     refine h_take (i := 2) (ls := #[true, true, true, false, false, false, false, false, false, false, false, false, false, false]) rfl (by kernel_rfl) (by kernel_rfl) (by kernel_rfl) (fun _ _ _ h => h) (p_move (v := .int .i64 (i : Int)) rfl) rfl rfl rfl (fun _ hw => HeapIs.drop (HeapIs.toE (i := 0) (m := ag.list.length) (T := tUse) rfl (by simp only [List.length_set]) hw) (List.Sublist.refl _)) rfl ?_
     refine h_take (i := 3) (ls := #[true, true, true, true, false, false, false, false, false, false, false, false, false, false]) rfl (by kernel_rfl) (by kernel_rfl) (by kernel_rfl) (fun _ _ _ h => h) (p_fieldAddr (B := B22) (j := 0) (j' := 1) rfl fo24_1 rfl) rfl rfl rfl (fun _ hw => HeapIs.drop (HeapIs.toE (i := 0) (m := ag.list.length) (T := tUse) rfl (by simp only [List.length_set]) hw) (List.Sublist.refl _)) rfl ?_
     refine h_take (i := 4) (ls := #[true, true, true, true, true, false, false, false, false, false, false, false, false, false]) rfl (by kernel_rfl) (by kernel_rfl) (by kernel_rfl) (fun _ _ _ h => h) (p_load (i := 3) (v := .slice aag_0 ag.list.length cag_0) rfl rfl sh22 rfl) rfl rfl rfl (fun _ hw => HeapIs.drop (HeapIs.toE (i := 0) (m := ag.list.length) (T := tUse) rfl (by simp only [List.length_set]) hw) (List.Sublist.refl _)) rfl ?_
     refine h_take (i := 5) (ls := #[true, true, true, true, true, true, false, false, false, false, false, false, false, false]) rfl (by kernel_rfl) (by kernel_rfl) (by kernel_rfl) (fun _ _ _ h => h) (p_move (v := .int .i64 (i : Int)) rfl) rfl rfl rfl (fun _ hw => HeapIs.drop (HeapIs.toE (i := 0) (m := ag.list.length) (T := tUse) rfl (by simp only [List.length_set]) hw) (List.Sublist.refl _)) rfl ?_
     refine h_take (i := 6) (ls := #[true, true, true, true, true, true, true, false, false, false, false, false, false, false]) rfl (by kernel_rfl) (by kernel_rfl) (by kernel_rfl) (fun _ _ _ h => h) (p_indexAddrE (T := tUse) (i := (i : Int)) (j := 0) rfl rfl rfl Try.underlying22 sz42 (by omega) (by omega)) rfl rfl rfl (fun _ hw => HeapIs.drop (HeapIs.toE (i := 0) (m := ag.list.length) (T := tUse) rfl (by simp only [List.length_set]) hw) (List.Sublist.refl _)) rfl ?_
     refine h_take (i := 7) (ls := #[true, true, true, true, true, true, true, true, false, false, false, false, false, false]) rfl (by kernel_rfl) (by kernel_rfl) (by kernel_rfl) (fun _ _ _ h => h) (p_fieldAddrE rfl fo42_1) rfl rfl rfl (fun _ hw => HeapIs.drop (HeapIs.toE (i := 0) (m := ag.list.length) (T := tUse) rfl (by simp only [List.length_set]) hw) (List.Sublist.refl _)) rfl ?_
     refine h_one (i := 8) (ls := #[true, true, true, true, true, true, true, true, true, false, false, false, false, false]) (by kernel_rfl) rfl rfl ?_
     refine o_pure (p_loadF (i := i) (j := 1) (T := tUse) (L := ag.list) (v := .int .i64 ((ag.list[i]).count)) rfl (rd_own (i := 0) rfl) (by first | assumption | omega) sh3 rfl) rfl rfl rfl ?_
     refine o_nil ?_
     refine h_next (fun _ hw => HeapIs.drop (HeapIs.toE (i := 0) (m := ag.list.length) (T := tUse) rfl (by simp only [List.length_set]) hw) (List.Sublist.refl _)) ?_
     refine h_take (i := 9) (ls := #[true, true, true, true, true, true, true, true, true, true, false, false, false, false]) rfl (by kernel_rfl) (by kernel_rfl) (by kernel_rfl) (fun _ _ _ h => h) (p_quob (p := (ag.list[i]).count) (q := 2) rfl rfl (by decide) (by omega)) rfl rfl rfl (fun _ hw => HeapIs.drop (HeapIs.toE (i := 0) (m := ag.list.length) (T := tUse) rfl (by simp only [List.length_set]) hw) (List.Sublist.refl _)) rfl ?_
     refine h_take (i := 10) (ls := #[true, true, true, true, true, true, true, true, true, true, true, false, false, false]) rfl (by kernel_rfl) (by kernel_rfl) (by kernel_rfl) (fun _ _ _ h => h) (p_max (p := 1) (q := (((ag.list[i]).count).tdiv 2)) rfl rfl) rfl rfl rfl (fun _ hw => HeapIs.drop (HeapIs.toE (i := 0) (m := ag.list.length) (T := tUse) rfl (by simp only [List.length_set]) hw) (List.Sublist.refl _)) rfl ?_
     refine h_take (i := 11) (ls := #[true, true, true, true, true, true, true, true, true, true, true, true, false, false]) rfl (by kernel_rfl) (by kernel_rfl) (by kernel_rfl) (fun _ _ _ h => h) (p_indexAddrE (T := tUse) (i := (i : Int)) (j := 0) rfl rfl rfl Try.underlying22 sz42 (by omega) (by omega)) rfl rfl rfl (fun _ hw => HeapIs.drop (HeapIs.toE (i := 0) (m := ag.list.length) (T := tUse) rfl (by simp only [List.length_set]) hw) (List.Sublist.refl _)) rfl ?_
     refine h_take (i := 12) (ls := #[true, true, true, true, true, true, true, true, true, true, true, true, true, false]) rfl (by kernel_rfl) (by kernel_rfl) (by kernel_rfl) (fun _ _ _ h => h) (p_fieldAddrE rfl fo42_1) rfl rfl rfl (fun _ hw => HeapIs.drop (HeapIs.toE (i := 0) (m := ag.list.length) (T := tUse) rfl (by simp only [List.length_set]) hw) (List.Sublist.refl _)) rfl ?_
     refine h_one (i := 13) (ls := #[true, true, true, true, true, true, true, true, true, true, true, true, true, true]) (by kernel_rfl) rfl rfl ?_
     refine o_storeF (j := 1) (i := 0) (T := tUse) (idx := i) (v := .int .i64 (max 1 (((ag.list[i]).count).tdiv 2))) (vs := [.int .i64 (max 1 (((ag.list[i]).count).tdiv 2))]) (z := (⟨(ag.list[i]).key, (max 1 (((ag.list[i]).count).tdiv 2))⟩ : DUse)) rfl rfl rfl rfl (by first | assumption | omega | (simp only [List.length_set]; omega)) sz3 rfl rfl rfl rfl (Sub.refl _) ?_
     refine o_nil ?_
     refine h_next (fun _ hw => HeapIs.drop (HeapIs.toE (i := 0) (m := ag.list.length) (T := tUse) rfl (by simp only [List.length_set]) hw) (List.Sublist.refl _)) ?_
     refine h_done (by kernel_rfl) ?_
     refine q_cast (F' := [(3, .pointer (some ⟨B1, 0, none⟩)), (7, .pointer (some ⟨B7, 0, none⟩)), (8, .bool ((Lfu.access u key).2.1)), (9, .int .i64 ((Lfu.access u key).2.2)), (10, .int .i64 (Lfu.accessErr u key)), (11, .pointer (some ⟨B13, 0, none⟩)), (12, .int .i64 ((Lfu.run u l).2)), (13, .int .i64 (Lfu.runErr u l)), (14, .pointer (some ⟨B19, 0, none⟩)), (15, .int .i64 (Lfu.check u)), (16, .int .i64 (Lfu.victim u)), (17, .int .i64 (Lfu.victimErr u)), (18, .int .i64 (Lfu.check u)), (19, .int .i64 (Lfu.check u)), (20, .int .i64 (Lru.trace l)), (21, .int .i64 (Lfu.check u)), (22, .pointer (some ⟨B20, 0, none⟩)), (23, .pointer (some ⟨B21, 0, none⟩)), (24, .pointer (some ⟨B22, 0, none⟩)), (25, .bool ((Lfu.touch u key).2.1)), (26, .int .i64 ((Lfu.touch u key).2.2)), (27, .int .i64 ((Lfu.runGo u 0 l).2)), (28, .int .i64 0), (29, .int .i64 (i : Int))]) (H := [own tUse Sag_0 aag_0 cag_0 (ag.list.set i (⟨(ag.list[i]).key, (max 1 (((ag.list[i]).count).tdiv 2))⟩ : DUse)), loose tUse (a93 = au_0 ∧ c94 = cu_0 ∧ (((Lfu.runGo u 0 l).1).list) = u.list) S91 a93 c94 (((Lfu.runGo u 0 l).1).list), own tUse S85 a87 c88 (((Lfu.touch u key).1).list), box B22 [.int .i64 ag.room, .slice aag_0 ag.list.length cag_0] 24, box B21 [.int .i64 (((Lfu.runGo u 0 l).1).room), .slice a93 (((Lfu.runGo u 0 l).1).list).length c94] 24, box B20 [.int .i64 (((Lfu.touch u key).1).room), .slice a87 (((Lfu.touch u key).1).list).length c88] 24, box B19 [.int .i64 ((Lfu.age u).room), .slice a16 ((Lfu.age u).list).length c17] 24, own tUse S14 a16 c17 ((Lfu.age u).list), box B13 [.int .i64 (((Lfu.run u l).1).room), .slice a10 (((Lfu.run u l).1).list).length c11] 24, own tUse S8 a10 c11 (((Lfu.run u l).1).list), box B7 [.int .i64 (((Lfu.access u key).1).room), .slice a4 (((Lfu.access u key).1).list).length c5] 24, own tUse S2 a4 c5 (((Lfu.access u key).1).list), box B1 [.int .i64 u.room, .slice au_0 u.list.length cu_0] 24, base w0]) (H' := [own tUse Sag_0 aag_0 cag_0 (ag.list.set i (⟨(ag.list[i]).key, (max 1 (((ag.list[i]).count).tdiv 2))⟩ : DUse)), loose tUse (a93 = au_0 ∧ c94 = cu_0 ∧ (((Lfu.runGo u 0 l).1).list) = u.list) S91 a93 c94 (((Lfu.runGo u 0 l).1).list), own tUse S85 a87 c88 (((Lfu.touch u key).1).list), box B22 [.int .i64 ag.room, .slice aag_0 (ag.list.set i (⟨(ag.list[i]).key, (max 1 (((ag.list[i]).count).tdiv 2))⟩ : DUse)).length cag_0] 24, box B21 [.int .i64 (((Lfu.runGo u 0 l).1).room), .slice a93 (((Lfu.runGo u 0 l).1).list).length c94] 24, box B20 [.int .i64 (((Lfu.touch u key).1).room), .slice a87 (((Lfu.touch u key).1).list).length c88] 24, box B19 [.int .i64 ((Lfu.age u).room), .slice a16 ((Lfu.age u).list).length c17] 24, own tUse S14 a16 c17 ((Lfu.age u).list), box B13 [.int .i64 (((Lfu.run u l).1).room), .slice a10 (((Lfu.run u l).1).list).length c11] 24, own tUse S8 a10 c11 (((Lfu.run u l).1).list), box B7 [.int .i64 (((Lfu.access u key).1).room), .slice a4 (((Lfu.access u key).1).list).length c5] 24, own tUse S2 a4 c5 (((Lfu.access u key).1).list), box B1 [.int .i64 u.room, .slice au_0 u.list.length cu_0] 24, base w0]) (Sub.cons rfl (Sub.cons rfl (Sub.cons rfl (Sub.cons rfl (Sub.cons rfl (Sub.cons rfl (Sub.cons rfl (Sub.cons rfl (Sub.cons rfl (Sub.cons rfl (Sub.cons rfl (Sub.cons rfl (Sub.cons rfl (Sub.cons rfl (Sub.cons rfl (Sub.cons rfl (Sub.cons rfl (Sub.cons rfl (Sub.cons rfl (Sub.cons rfl (Sub.cons rfl (Sub.cons rfl (Sub.cons rfl (Sub.cons rfl (Sub.nil _))))))))))))))))))))))))) (by simp only [List.length_set, List.length_reverse]) ?_
     refine q_block_normal (q_then ?_)
     refine c_region ?_
     refine o_mv (v := .int .i64 (i : Int)) rfl rfl ?_
     refine o_pure (p_addb (p := (i : Int)) (q := 1) rfl rfl (by omega)) rfl rfl rfl ?_
     refine o_pure (p_assign (v := .int .i64 ((i : Int) + 1)) rfl) rfl rfl rfl ?_
     refine o_nil ?_
     refine q_round hK96 (i + 1, (⟨ag.room, (ag.list.set i (⟨(ag.list[i]).key, (max 1 (((ag.list[i]).count).tdiv 2))⟩ : DUse))⟩ : DUses), aag_0, cag_0, Sag_0) ?_ ?_ ?_ ?_
     ·clear hK96
      exact ⟨hI.1, hI.2.next (by omega)⟩
     ·(try dsimp only); omega
     ·exact Sub.cons rfl (Sub.cons rfl (Sub.cons rfl (Sub.cons rfl (Sub.cons rfl (Sub.cons rfl (Sub.cons rfl (Sub.cons rfl (Sub.cons rfl (Sub.cons rfl (Sub.cons rfl (Sub.cons rfl (Sub.cons rfl (Sub.cons rfl (Sub.cons rfl (Sub.cons rfl (Sub.cons rfl (Sub.cons rfl (Sub.cons rfl (Sub.cons rfl (Sub.cons rfl (Sub.cons rfl (Sub.cons rfl (Sub.cons rfl (Sub.nil _))))))))))))))))))))))))
     ·exact fun _ hw => HeapIs.pick hw [0, 1, 2, 3, 4, 5, 6, 7, 8, 9, 10, 11, 12, 13] (by decide) rfl
    ·simp only [decide_eq_false_iff_not, Int.not_lt] at hc97
     refine c_exit ?_
     refine q_then_exit (q_then_exit (q_block_exit (q_then ?_)))
     refine c_seq ?_
     refine c_region ?_
     refine o_pure (p_fieldAddr (B := B1) (j := 0) (j' := 1) rfl fo24_1 rfl) rfl rfl rfl ?_
     refine o_pure (p_load (i := 12) (v := .slice au_0 u.list.length cu_0) rfl rfl sh22 rfl) rfl rfl rfl ?_
     refine o_pure (p_len_slice (len := u.list.length) rfl rfl Try.underlying22) rfl rfl rfl ?_
     refine o_pure (p_eq (p := (u.list.length : Int)) (q := 0) rfl rfl) rfl rfl rfl ?_
     refine o_nil ?_
     refine q_then ?_
     refine c_cond (b := ((u.list.length : Int) == 0)) rfl (fun hc99 => ?_) (fun hc99 => ?_)
     ·simp only [beq_iff_eq] at hc99
      refine c_region ?_
      refine o_pure (p_assign (v := .int .i64 5) rfl) rfl rfl rfl ?_
      refine o_nil ?_
      refine q_then ?_
      refine c_seq ?_
      refine c_region ?_
      refine o_call0 (v := .bool true) rfl (lfuBegun_ok ) hf24 (fun _ _ => trivial) rfl ?_
      refine o_mv (v := .bool true) rfl rfl ?_
      refine o_unguard 120 rfl rfl ?_
      refine o_pure (p_load_agg (i := 12) (vs := [.int .i64 u.room, .slice au_0 u.list.length cu_0]) rfl rfl sh24 rfl rfl) rfl rfl rfl ?_
      refine o_unguard 120 rfl rfl ?_
      refine o_call0 (v := .int .i64 (Lfu.check u)) rfl (fcheck_ok u au_0 cu_0) hf25 (fun w hw => (rd_base (i := 13) rfl hu_0) w hw) rfl ?_
      refine o_unguard 120 rfl rfl ?_
      refine o_mv (v := .int .i64 (Lfu.check u)) rfl rfl ?_
      refine o_unguard 120 rfl rfl ?_
      refine o_pure (p_eq (p := (Lfu.check u)) (q := (Lfu.check u)) rfl rfl) rfl rfl rfl ?_
      refine o_pt (v := .bool ((Lfu.check u) == (Lfu.check u))) rfl rfl rfl ?_
      refine o_mv (v := .bool ((Lfu.check u) == (Lfu.check u))) rfl rfl ?_
      refine o_and (p := 130) 4 (decide (((Lfu.access u key).1) = ((Lfu.touch u key).1))) ?_ ?_ ?_
      ·intro hb100 hk
       simp only [beq_iff_eq] at hb100
       refine o_unguard 126 rfl rfl ?_
       refine o_pure (p_load_agg (i := 10) (vs := [.int .i64 (((Lfu.access u key).1).room), .slice a4 (((Lfu.access u key).1).list).length c5]) rfl rfl sh24 rfl rfl) rfl rfl rfl ?_
       refine o_unguard 126 rfl rfl ?_
       refine o_pure (p_load_agg (i := 5) (vs := [.int .i64 (((Lfu.touch u key).1).room), .slice a87 (((Lfu.touch u key).1).list).length c88]) rfl rfl sh24 rfl rfl) rfl rfl rfl ?_
       refine o_unguard 126 rfl rfl ?_
       refine o_call0 (v := .bool (decide (((Lfu.access u key).1) = ((Lfu.touch u key).1)))) rfl (sameUses_ok ((Lfu.access u key).1) a4 c5 ((Lfu.touch u key).1) a87 c88) hf26 (fun w hw => ⟨(rd_own (i := 11) rfl) w hw, (rd_own (i := 2) rfl) w hw⟩) rfl ?_
       refine o_pt (v := .bool (decide (((Lfu.access u key).1) = ((Lfu.touch u key).1)))) rfl rfl rfl ?_
       exact o_sub (Sub.cons rfl (Sub.skip rfl (Sub.skip rfl (Sub.skip rfl (Sub.skip rfl (Sub.skip rfl (Sub.refl _))))))) hk
      ·intro hb100 hk
       refine o_guard_no rfl 126 rfl rfl rfl rfl rfl ?_
       refine o_guard_no rfl 126 rfl rfl rfl rfl rfl ?_
       refine o_guard_no rfl 126 rfl rfl rfl rfl rfl ?_
       refine o_pf (v := .bool false) rfl rfl rfl ?_
       exact o_sub (Sub.cons rfl (Sub.skip rfl (Sub.skip rfl (Sub.skip rfl (Sub.skip rfl (Sub.skip rfl (Sub.refl _))))))) hk
      refine o_mv (v := .bool (((Lfu.check u) == (Lfu.check u)) && (decide (((Lfu.access u key).1) = ((Lfu.touch u key).1))))) rfl rfl ?_
      refine o_and (p := 135) 4 (((Lfu.access u key).2.1) == ((Lfu.touch u key).2.1)) ?_ ?_ ?_
      ·intro hb101 hk
       simp only [Bool.and_eq_true, beq_iff_eq, decide_eq_true_eq] at hb101
       refine o_unguard 131 rfl rfl ?_
       refine o_mv (v := .bool ((Lfu.access u key).2.1)) rfl rfl ?_
       refine o_unguard 131 rfl rfl ?_
       refine o_mv (v := .bool ((Lfu.touch u key).2.1)) rfl rfl ?_
       refine o_unguard 131 rfl rfl ?_
       refine o_pure (p_eqBool (b := ((Lfu.access u key).2.1)) (c := ((Lfu.touch u key).2.1)) rfl rfl Try.underlying4) rfl rfl rfl ?_
       refine o_pt (v := .bool (((Lfu.access u key).2.1) == ((Lfu.touch u key).2.1))) rfl rfl rfl ?_
       exact o_sub (Sub.cons rfl (Sub.skip rfl (Sub.skip rfl (Sub.skip rfl (Sub.skip rfl (Sub.skip rfl (Sub.refl _))))))) hk
      ·intro hb101 hk
       refine o_guard_no rfl 131 rfl rfl rfl rfl rfl ?_
       refine o_guard_no rfl 131 rfl rfl rfl rfl rfl ?_
       refine o_guard_no rfl 131 rfl rfl rfl rfl rfl ?_
       refine o_pf (v := .bool false) rfl rfl rfl ?_
       exact o_sub (Sub.cons rfl (Sub.skip rfl (Sub.skip rfl (Sub.skip rfl (Sub.skip rfl (Sub.skip rfl (Sub.refl _))))))) hk
      refine o_mv (v := .bool ((((Lfu.check u) == (Lfu.check u)) && (decide (((Lfu.access u key).1) = ((Lfu.touch u key).1)))) && (((Lfu.access u key).2.1) == ((Lfu.touch u key).2.1)))) rfl rfl ?_
      refine o_and (p := 140) 4 (((Lfu.access u key).2.2) == ((Lfu.touch u key).2.2)) ?_ ?_ ?_
      ·intro hb102 hk
       simp only [Bool.and_eq_true, beq_iff_eq, decide_eq_true_eq] at hb102
       refine o_unguard 136 rfl rfl ?_
       refine o_mv (v := .int .i64 ((Lfu.access u key).2.2)) rfl rfl ?_
       refine o_unguard 136 rfl rfl ?_
       refine o_mv (v := .int .i64 ((Lfu.touch u key).2.2)) rfl rfl ?_
       refine o_unguard 136 rfl rfl ?_
       refine o_pure (p_eq (p := ((Lfu.access u key).2.2)) (q := ((Lfu.touch u key).2.2)) rfl rfl) rfl rfl rfl ?_
       refine o_pt (v := .bool (((Lfu.access u key).2.2) == ((Lfu.touch u key).2.2))) rfl rfl rfl ?_
       exact o_sub (Sub.cons rfl (Sub.skip rfl (Sub.skip rfl (Sub.skip rfl (Sub.skip rfl (Sub.skip rfl (Sub.refl _))))))) hk
      ·intro hb102 hk
       refine o_guard_no rfl 136 rfl rfl rfl rfl rfl ?_
       refine o_guard_no rfl 136 rfl rfl rfl rfl rfl ?_
       refine o_guard_no rfl 136 rfl rfl rfl rfl rfl ?_
       refine o_pf (v := .bool false) rfl rfl rfl ?_
       exact o_sub (Sub.cons rfl (Sub.skip rfl (Sub.skip rfl (Sub.skip rfl (Sub.skip rfl (Sub.skip rfl (Sub.refl _))))))) hk
      refine o_mv (v := .bool (((((Lfu.check u) == (Lfu.check u)) && (decide (((Lfu.access u key).1) = ((Lfu.touch u key).1)))) && (((Lfu.access u key).2.1) == ((Lfu.touch u key).2.1))) && (((Lfu.access u key).2.2) == ((Lfu.touch u key).2.2)))) rfl rfl ?_
      refine o_and (p := 145) 4 ((Lfu.accessErr u key) == (Lfu.check u)) ?_ ?_ ?_
      ·intro hb103 hk
       simp only [Bool.and_eq_true, beq_iff_eq, decide_eq_true_eq] at hb103
       refine o_unguard 141 rfl rfl ?_
       refine o_mv (v := .int .i64 (Lfu.accessErr u key)) rfl rfl ?_
       refine o_unguard 141 rfl rfl ?_
       refine o_mv (v := .int .i64 (Lfu.check u)) rfl rfl ?_
       refine o_unguard 141 rfl rfl ?_
       refine o_pure (p_eq (p := (Lfu.accessErr u key)) (q := (Lfu.check u)) rfl rfl) rfl rfl rfl ?_
       refine o_pt (v := .bool ((Lfu.accessErr u key) == (Lfu.check u))) rfl rfl rfl ?_
       exact o_sub (Sub.cons rfl (Sub.skip rfl (Sub.skip rfl (Sub.skip rfl (Sub.skip rfl (Sub.skip rfl (Sub.refl _))))))) hk
      ·intro hb103 hk
       refine o_guard_no rfl 141 rfl rfl rfl rfl rfl ?_
       refine o_guard_no rfl 141 rfl rfl rfl rfl rfl ?_
       refine o_guard_no rfl 141 rfl rfl rfl rfl rfl ?_
       refine o_pf (v := .bool false) rfl rfl rfl ?_
       exact o_sub (Sub.cons rfl (Sub.skip rfl (Sub.skip rfl (Sub.skip rfl (Sub.skip rfl (Sub.skip rfl (Sub.refl _))))))) hk
      refine o_mv (v := .bool ((((((Lfu.check u) == (Lfu.check u)) && (decide (((Lfu.access u key).1) = ((Lfu.touch u key).1)))) && (((Lfu.access u key).2.1) == ((Lfu.touch u key).2.1))) && (((Lfu.access u key).2.2) == ((Lfu.touch u key).2.2))) && ((Lfu.accessErr u key) == (Lfu.check u)))) rfl rfl ?_
      refine o_and (p := 150) 4 (decide (((Lfu.run u l).1) = ((Lfu.runGo u 0 l).1))) ?_ ?_ ?_
      ·intro hb104 hk
       simp only [Bool.and_eq_true, beq_iff_eq, decide_eq_true_eq] at hb104
       refine o_unguard 146 rfl rfl ?_
       refine o_pure (p_load_agg (i := 8) (vs := [.int .i64 (((Lfu.run u l).1).room), .slice a10 (((Lfu.run u l).1).list).length c11]) rfl rfl sh24 rfl rfl) rfl rfl rfl ?_
       refine o_unguard 146 rfl rfl ?_
       refine o_pure (p_load_agg (i := 4) (vs := [.int .i64 (((Lfu.runGo u 0 l).1).room), .slice a93 (((Lfu.runGo u 0 l).1).list).length c94]) rfl rfl sh24 rfl rfl) rfl rfl rfl ?_
       refine o_unguard 146 rfl rfl ?_
       refine o_call0 (v := .bool (decide (((Lfu.run u l).1) = ((Lfu.runGo u 0 l).1)))) rfl (sameUses_ok ((Lfu.run u l).1) a10 c11 ((Lfu.runGo u 0 l).1) a93 c94) hf26 (fun w hw => ⟨(rd_own (i := 9) rfl) w hw, (rd_loose (i := 1) rfl (fun hφ => by obtain ⟨h1, h2, h3⟩ := hφ; intro w hw; have g1 : a93 = au_0 := h1; have g2 : c94 = cu_0 := h2; have g3 : ((Lfu.runGo u 0 l).1).list = u.list := h3; rw [g1, g2, g3]; exact (rd_base (i := 13) rfl hu_0) w hw)) w hw⟩) rfl ?_
       refine o_pt (v := .bool (decide (((Lfu.run u l).1) = ((Lfu.runGo u 0 l).1)))) rfl rfl rfl ?_
       exact o_sub (Sub.cons rfl (Sub.skip rfl (Sub.skip rfl (Sub.skip rfl (Sub.skip rfl (Sub.skip rfl (Sub.refl _))))))) hk
      ·intro hb104 hk
       refine o_guard_no rfl 146 rfl rfl rfl rfl rfl ?_
       refine o_guard_no rfl 146 rfl rfl rfl rfl rfl ?_
       refine o_guard_no rfl 146 rfl rfl rfl rfl rfl ?_
       refine o_pf (v := .bool false) rfl rfl rfl ?_
       exact o_sub (Sub.cons rfl (Sub.skip rfl (Sub.skip rfl (Sub.skip rfl (Sub.skip rfl (Sub.skip rfl (Sub.refl _))))))) hk
      refine o_mv (v := .bool (((((((Lfu.check u) == (Lfu.check u)) && (decide (((Lfu.access u key).1) = ((Lfu.touch u key).1)))) && (((Lfu.access u key).2.1) == ((Lfu.touch u key).2.1))) && (((Lfu.access u key).2.2) == ((Lfu.touch u key).2.2))) && ((Lfu.accessErr u key) == (Lfu.check u))) && (decide (((Lfu.run u l).1) = ((Lfu.runGo u 0 l).1))))) rfl rfl ?_
      refine o_and (p := 155) 4 (((Lfu.run u l).2) == ((Lfu.runGo u 0 l).2)) ?_ ?_ ?_
      ·intro hb105 hk
       simp only [Bool.and_eq_true, beq_iff_eq, decide_eq_true_eq] at hb105
       refine o_unguard 151 rfl rfl ?_
       refine o_mv (v := .int .i64 ((Lfu.run u l).2)) rfl rfl ?_
       refine o_unguard 151 rfl rfl ?_
       refine o_mv (v := .int .i64 ((Lfu.runGo u 0 l).2)) rfl rfl ?_
       refine o_unguard 151 rfl rfl ?_
       refine o_pure (p_eq (p := ((Lfu.run u l).2)) (q := ((Lfu.runGo u 0 l).2)) rfl rfl) rfl rfl rfl ?_
       refine o_pt (v := .bool (((Lfu.run u l).2) == ((Lfu.runGo u 0 l).2))) rfl rfl rfl ?_
       exact o_sub (Sub.cons rfl (Sub.skip rfl (Sub.skip rfl (Sub.skip rfl (Sub.skip rfl (Sub.skip rfl (Sub.refl _))))))) hk
      ·intro hb105 hk
       refine o_guard_no rfl 151 rfl rfl rfl rfl rfl ?_
       refine o_guard_no rfl 151 rfl rfl rfl rfl rfl ?_
       refine o_guard_no rfl 151 rfl rfl rfl rfl rfl ?_
       refine o_pf (v := .bool false) rfl rfl rfl ?_
       exact o_sub (Sub.cons rfl (Sub.skip rfl (Sub.skip rfl (Sub.skip rfl (Sub.skip rfl (Sub.skip rfl (Sub.refl _))))))) hk
      refine o_mv (v := .bool ((((((((Lfu.check u) == (Lfu.check u)) && (decide (((Lfu.access u key).1) = ((Lfu.touch u key).1)))) && (((Lfu.access u key).2.1) == ((Lfu.touch u key).2.1))) && (((Lfu.access u key).2.2) == ((Lfu.touch u key).2.2))) && ((Lfu.accessErr u key) == (Lfu.check u))) && (decide (((Lfu.run u l).1) = ((Lfu.runGo u 0 l).1)))) && (((Lfu.run u l).2) == ((Lfu.runGo u 0 l).2)))) rfl rfl ?_
      refine o_and (p := 160) 4 ((Lfu.runErr u l) == (Lru.trace l)) ?_ ?_ ?_
      ·intro hb106 hk
       simp only [Bool.and_eq_true, beq_iff_eq, decide_eq_true_eq] at hb106
       refine o_unguard 156 rfl rfl ?_
       refine o_mv (v := .int .i64 (Lfu.runErr u l)) rfl rfl ?_
       refine o_unguard 156 rfl rfl ?_
       refine o_mv (v := .int .i64 (Lru.trace l)) rfl rfl ?_
       refine o_unguard 156 rfl rfl ?_
       refine o_pure (p_eq (p := (Lfu.runErr u l)) (q := (Lru.trace l)) rfl rfl) rfl rfl rfl ?_
       refine o_pt (v := .bool ((Lfu.runErr u l) == (Lru.trace l))) rfl rfl rfl ?_
       exact o_sub (Sub.cons rfl (Sub.skip rfl (Sub.skip rfl (Sub.skip rfl (Sub.skip rfl (Sub.skip rfl (Sub.refl _))))))) hk
      ·intro hb106 hk
       refine o_guard_no rfl 156 rfl rfl rfl rfl rfl ?_
       refine o_guard_no rfl 156 rfl rfl rfl rfl rfl ?_
       refine o_guard_no rfl 156 rfl rfl rfl rfl rfl ?_
       refine o_pf (v := .bool false) rfl rfl rfl ?_
       exact o_sub (Sub.cons rfl (Sub.skip rfl (Sub.skip rfl (Sub.skip rfl (Sub.skip rfl (Sub.skip rfl (Sub.refl _))))))) hk
      refine o_mv (v := .bool (((((((((Lfu.check u) == (Lfu.check u)) && (decide (((Lfu.access u key).1) = ((Lfu.touch u key).1)))) && (((Lfu.access u key).2.1) == ((Lfu.touch u key).2.1))) && (((Lfu.access u key).2.2) == ((Lfu.touch u key).2.2))) && ((Lfu.accessErr u key) == (Lfu.check u))) && (decide (((Lfu.run u l).1) = ((Lfu.runGo u 0 l).1)))) && (((Lfu.run u l).2) == ((Lfu.runGo u 0 l).2))) && ((Lfu.runErr u l) == (Lru.trace l)))) rfl rfl ?_
      refine o_and (p := 165) 4 (decide ((Lfu.age u) = ag)) ?_ ?_ ?_
      ·intro hb107 hk
       simp only [Bool.and_eq_true, beq_iff_eq, decide_eq_true_eq] at hb107
       refine o_unguard 161 rfl rfl ?_
       refine o_pure (p_load_agg (i := 6) (vs := [.int .i64 ((Lfu.age u).room), .slice a16 ((Lfu.age u).list).length c17]) rfl rfl sh24 rfl rfl) rfl rfl rfl ?_
       refine o_unguard 161 rfl rfl ?_
       refine o_pure (p_load_agg (i := 3) (vs := [.int .i64 ag.room, .slice aag_0 ag.list.length cag_0]) rfl rfl sh24 rfl rfl) rfl rfl rfl ?_
       refine o_unguard 161 rfl rfl ?_
       refine o_call0 (v := .bool (decide ((Lfu.age u) = ag))) rfl (sameUses_ok (Lfu.age u) a16 c17 ag aag_0 cag_0) hf26 (fun w hw => ⟨(rd_own (i := 7) rfl) w hw, (rd_own (i := 0) rfl) w hw⟩) rfl ?_
       refine o_pt (v := .bool (decide ((Lfu.age u) = ag))) rfl rfl rfl ?_
       exact o_sub (Sub.cons rfl (Sub.skip rfl (Sub.skip rfl (Sub.skip rfl (Sub.skip rfl (Sub.skip rfl (Sub.refl _))))))) hk
      ·intro hb107 hk
       refine o_guard_no rfl 161 rfl rfl rfl rfl rfl ?_
       refine o_guard_no rfl 161 rfl rfl rfl rfl rfl ?_
       refine o_guard_no rfl 161 rfl rfl rfl rfl rfl ?_
       refine o_pf (v := .bool false) rfl rfl rfl ?_
       exact o_sub (Sub.cons rfl (Sub.skip rfl (Sub.skip rfl (Sub.skip rfl (Sub.skip rfl (Sub.skip rfl (Sub.refl _))))))) hk
      refine o_mv (v := .bool ((((((((((Lfu.check u) == (Lfu.check u)) && (decide (((Lfu.access u key).1) = ((Lfu.touch u key).1)))) && (((Lfu.access u key).2.1) == ((Lfu.touch u key).2.1))) && (((Lfu.access u key).2.2) == ((Lfu.touch u key).2.2))) && ((Lfu.accessErr u key) == (Lfu.check u))) && (decide (((Lfu.run u l).1) = ((Lfu.runGo u 0 l).1)))) && (((Lfu.run u l).2) == ((Lfu.runGo u 0 l).2))) && ((Lfu.runErr u l) == (Lru.trace l))) && (decide ((Lfu.age u) = ag)))) rfl rfl ?_
      refine o_and (p := 170) 4 ((Lfu.check u) == (Lfu.check u)) ?_ ?_ ?_
      ·intro hb108 hk
       simp only [Bool.and_eq_true, beq_iff_eq, decide_eq_true_eq] at hb108
       refine o_unguard 166 rfl rfl ?_
       refine o_mv (v := .int .i64 (Lfu.check u)) rfl rfl ?_
       refine o_unguard 166 rfl rfl ?_
       refine o_mv (v := .int .i64 (Lfu.check u)) rfl rfl ?_
       refine o_unguard 166 rfl rfl ?_
       refine o_pure (p_eq (p := (Lfu.check u)) (q := (Lfu.check u)) rfl rfl) rfl rfl rfl ?_
       refine o_pt (v := .bool ((Lfu.check u) == (Lfu.check u))) rfl rfl rfl ?_
       exact o_sub (Sub.cons rfl (Sub.skip rfl (Sub.skip rfl (Sub.skip rfl (Sub.skip rfl (Sub.skip rfl (Sub.refl _))))))) hk
      ·intro hb108 hk
       refine o_guard_no rfl 166 rfl rfl rfl rfl rfl ?_
       refine o_guard_no rfl 166 rfl rfl rfl rfl rfl ?_
       refine o_guard_no rfl 166 rfl rfl rfl rfl rfl ?_
       refine o_pf (v := .bool false) rfl rfl rfl ?_
       exact o_sub (Sub.cons rfl (Sub.skip rfl (Sub.skip rfl (Sub.skip rfl (Sub.skip rfl (Sub.skip rfl (Sub.refl _))))))) hk
      refine o_mv (v := .bool (((((((((((Lfu.check u) == (Lfu.check u)) && (decide (((Lfu.access u key).1) = ((Lfu.touch u key).1)))) && (((Lfu.access u key).2.1) == ((Lfu.touch u key).2.1))) && (((Lfu.access u key).2.2) == ((Lfu.touch u key).2.2))) && ((Lfu.accessErr u key) == (Lfu.check u))) && (decide (((Lfu.run u l).1) = ((Lfu.runGo u 0 l).1)))) && (((Lfu.run u l).2) == ((Lfu.runGo u 0 l).2))) && ((Lfu.runErr u l) == (Lru.trace l))) && (decide ((Lfu.age u) = ag))) && ((Lfu.check u) == (Lfu.check u)))) rfl rfl ?_
      refine o_and (p := 175) 4 ((Lfu.victim u) == 0) ?_ ?_ ?_
      ·intro hb109 hk
       simp only [Bool.and_eq_true, beq_iff_eq, decide_eq_true_eq] at hb109
       refine o_unguard 171 rfl rfl ?_
       refine o_mv (v := .int .i64 (Lfu.victim u)) rfl rfl ?_
       refine o_unguard 171 rfl rfl ?_
       refine o_mv (v := .int .i64 0) rfl rfl ?_
       refine o_unguard 171 rfl rfl ?_
       refine o_pure (p_eq (p := (Lfu.victim u)) (q := 0) rfl rfl) rfl rfl rfl ?_
       refine o_pt (v := .bool ((Lfu.victim u) == 0)) rfl rfl rfl ?_
       exact o_sub (Sub.cons rfl (Sub.skip rfl (Sub.skip rfl (Sub.skip rfl (Sub.skip rfl (Sub.skip rfl (Sub.refl _))))))) hk
      ·intro hb109 hk
       refine o_guard_no rfl 171 rfl rfl rfl rfl rfl ?_
       refine o_guard_no rfl 171 rfl rfl rfl rfl rfl ?_
       refine o_guard_no rfl 171 rfl rfl rfl rfl rfl ?_
       refine o_pf (v := .bool false) rfl rfl rfl ?_
       exact o_sub (Sub.cons rfl (Sub.skip rfl (Sub.skip rfl (Sub.skip rfl (Sub.skip rfl (Sub.skip rfl (Sub.refl _))))))) hk
      refine o_mv (v := .bool ((((((((((((Lfu.check u) == (Lfu.check u)) && (decide (((Lfu.access u key).1) = ((Lfu.touch u key).1)))) && (((Lfu.access u key).2.1) == ((Lfu.touch u key).2.1))) && (((Lfu.access u key).2.2) == ((Lfu.touch u key).2.2))) && ((Lfu.accessErr u key) == (Lfu.check u))) && (decide (((Lfu.run u l).1) = ((Lfu.runGo u 0 l).1)))) && (((Lfu.run u l).2) == ((Lfu.runGo u 0 l).2))) && ((Lfu.runErr u l) == (Lru.trace l))) && (decide ((Lfu.age u) = ag))) && ((Lfu.check u) == (Lfu.check u))) && ((Lfu.victim u) == 0))) rfl rfl ?_
      refine o_and (p := 180) 4 ((Lfu.victimErr u) == 5) ?_ ?_ ?_
      ·intro hb110 hk
       simp only [Bool.and_eq_true, beq_iff_eq, decide_eq_true_eq] at hb110
       refine o_unguard 176 rfl rfl ?_
       refine o_mv (v := .int .i64 (Lfu.victimErr u)) rfl rfl ?_
       refine o_unguard 176 rfl rfl ?_
       refine o_mv (v := .int .i64 5) rfl rfl ?_
       refine o_unguard 176 rfl rfl ?_
       refine o_pure (p_eq (p := (Lfu.victimErr u)) (q := 5) rfl rfl) rfl rfl rfl ?_
       refine o_pt (v := .bool ((Lfu.victimErr u) == 5)) rfl rfl rfl ?_
       exact o_sub (Sub.cons rfl (Sub.skip rfl (Sub.skip rfl (Sub.skip rfl (Sub.skip rfl (Sub.skip rfl (Sub.refl _))))))) hk
      ·intro hb110 hk
       refine o_guard_no rfl 176 rfl rfl rfl rfl rfl ?_
       refine o_guard_no rfl 176 rfl rfl rfl rfl rfl ?_
       refine o_guard_no rfl 176 rfl rfl rfl rfl rfl ?_
       refine o_pf (v := .bool false) rfl rfl rfl ?_
       exact o_sub (Sub.cons rfl (Sub.skip rfl (Sub.skip rfl (Sub.skip rfl (Sub.skip rfl (Sub.skip rfl (Sub.refl _))))))) hk
      refine o_pure (p_assign (v := .bool (((((((((((((Lfu.check u) == (Lfu.check u)) && (decide (((Lfu.access u key).1) = ((Lfu.touch u key).1)))) && (((Lfu.access u key).2.1) == ((Lfu.touch u key).2.1))) && (((Lfu.access u key).2.2) == ((Lfu.touch u key).2.2))) && ((Lfu.accessErr u key) == (Lfu.check u))) && (decide (((Lfu.run u l).1) = ((Lfu.runGo u 0 l).1)))) && (((Lfu.run u l).2) == ((Lfu.runGo u 0 l).2))) && ((Lfu.runErr u l) == (Lru.trace l))) && (decide ((Lfu.age u) = ag))) && ((Lfu.check u) == (Lfu.check u))) && ((Lfu.victim u) == 0)) && ((Lfu.victimErr u) == 5))) rfl) rfl rfl rfl ?_
      refine o_nil ?_
      refine q_then ?_
      refine c_ret ?_
      have hr0 : ((((((((((((((Lfu.check u) == (Lfu.check u)) && (decide (((Lfu.access u key).1) = ((Lfu.touch u key).1)))) && (((Lfu.access u key).2.1) == ((Lfu.touch u key).2.1))) && (((Lfu.access u key).2.2) == ((Lfu.touch u key).2.2))) && ((Lfu.accessErr u key) == (Lfu.check u))) && (decide (((Lfu.run u l).1) = ((Lfu.runGo u 0 l).1)))) && (((Lfu.run u l).2) == ((Lfu.runGo u 0 l).2))) && ((Lfu.runErr u l) == (Lru.trace l))) && (decide ((Lfu.age u) = ag))) && ((Lfu.check u) == (Lfu.check u))) && ((Lfu.victim u) == 0)) && ((Lfu.victimErr u) == 5)) : Bool) = true := by
       rcases Lfu.acc_num u key with ⟨a0, a1, a2⟩ | ⟨a0, a3, a1, a2⟩ | ⟨a0, a3, a1, a2⟩ <;> rcases Lfu.run_cases u l with ⟨b0, b1, b2⟩ | ⟨b0, b3, b1, b2⟩ | ⟨b0, b3, b1, b2⟩ <;> rcases Lfu.vic_cases u with ⟨s0, s1, s2⟩ | ⟨s0, s3, s1, s2⟩ | ⟨s0, s3, s1, s2⟩ <;> first | (exfalso; omega) | (rw [a1, a2, b1, b2, s1, s2]; first | (simp [Lfu.zero, Lfu.age, a0]; done) | (simp [Lfu.zero, Lfu.age, a0, b3]; done) | (have hag := Lfu.age_of hI.1 (hI.2.done (by omega)); rw [hag]; simp [Lfu.zero, Lfu.age, a0, b3]; done))
      refine q_end0 (v := .bool (((((((((((((Lfu.check u) == (Lfu.check u)) && (decide (((Lfu.access u key).1) = ((Lfu.touch u key).1)))) && (((Lfu.access u key).2.1) == ((Lfu.touch u key).2.1))) && (((Lfu.access u key).2.2) == ((Lfu.touch u key).2.2))) && ((Lfu.accessErr u key) == (Lfu.check u))) && (decide (((Lfu.run u l).1) = ((Lfu.runGo u 0 l).1)))) && (((Lfu.run u l).2) == ((Lfu.runGo u 0 l).2))) && ((Lfu.runErr u l) == (Lru.trace l))) && (decide ((Lfu.age u) = ag))) && ((Lfu.check u) == (Lfu.check u))) && ((Lfu.victim u) == 0)) && ((Lfu.victimErr u) == 5))) (rt1 rfl (r_tmp rfl)) (i := 13) rfl ?_
      exact (by have hcc := congrArg (fun (y0 : Bool) => (.bool y0 : Value)) hr0; exact hcc)
     ·simp only [beq_eq_false_iff_ne, ne_eq] at hc99
      refine c_region ?_
      refine o_pure (p_fieldAddr (B := B1) (j := 0) (j' := 1) rfl fo24_1 rfl) rfl rfl rfl ?_
      refine o_pure (p_load (i := 12) (v := .slice au_0 u.list.length cu_0) rfl rfl sh22 rfl) rfl rfl rfl ?_
      refine o_call0 (v := .int .i64 ((u.list.getD (Lfu.least u.list) default).key)) rfl (rfleast_ok u.list au_0 cu_0 (by omega)) hf23 (fun w hw => (rd_base (i := 13) rfl hu_0) w hw) rfl ?_
      refine o_pure (p_assign (v := .int .i64 ((u.list.getD (Lfu.least u.list) default).key)) rfl) rfl rfl rfl ?_
      refine o_nil ?_
      refine q_then ?_
      refine c_seq ?_
      refine c_region ?_
      refine o_call0 (v := .bool true) rfl (lfuBegun_ok ) hf24 (fun _ _ => trivial) rfl ?_
      refine o_mv (v := .bool true) rfl rfl ?_
      refine o_unguard 120 rfl rfl ?_
      refine o_pure (p_load_agg (i := 12) (vs := [.int .i64 u.room, .slice au_0 u.list.length cu_0]) rfl rfl sh24 rfl rfl) rfl rfl rfl ?_
      refine o_unguard 120 rfl rfl ?_
      refine o_call0 (v := .int .i64 (Lfu.check u)) rfl (fcheck_ok u au_0 cu_0) hf25 (fun w hw => (rd_base (i := 13) rfl hu_0) w hw) rfl ?_
      refine o_unguard 120 rfl rfl ?_
      refine o_mv (v := .int .i64 (Lfu.check u)) rfl rfl ?_
      refine o_unguard 120 rfl rfl ?_
      refine o_pure (p_eq (p := (Lfu.check u)) (q := (Lfu.check u)) rfl rfl) rfl rfl rfl ?_
      refine o_pt (v := .bool ((Lfu.check u) == (Lfu.check u))) rfl rfl rfl ?_
      refine o_mv (v := .bool ((Lfu.check u) == (Lfu.check u))) rfl rfl ?_
      refine o_and (p := 130) 4 (decide (((Lfu.access u key).1) = ((Lfu.touch u key).1))) ?_ ?_ ?_
      ·intro hb111 hk
       simp only [beq_iff_eq] at hb111
       refine o_unguard 126 rfl rfl ?_
       refine o_pure (p_load_agg (i := 10) (vs := [.int .i64 (((Lfu.access u key).1).room), .slice a4 (((Lfu.access u key).1).list).length c5]) rfl rfl sh24 rfl rfl) rfl rfl rfl ?_
       refine o_unguard 126 rfl rfl ?_
       refine o_pure (p_load_agg (i := 5) (vs := [.int .i64 (((Lfu.touch u key).1).room), .slice a87 (((Lfu.touch u key).1).list).length c88]) rfl rfl sh24 rfl rfl) rfl rfl rfl ?_
       refine o_unguard 126 rfl rfl ?_
       refine o_call0 (v := .bool (decide (((Lfu.access u key).1) = ((Lfu.touch u key).1)))) rfl (sameUses_ok ((Lfu.access u key).1) a4 c5 ((Lfu.touch u key).1) a87 c88) hf26 (fun w hw => ⟨(rd_own (i := 11) rfl) w hw, (rd_own (i := 2) rfl) w hw⟩) rfl ?_
       refine o_pt (v := .bool (decide (((Lfu.access u key).1) = ((Lfu.touch u key).1)))) rfl rfl rfl ?_
       exact o_sub (Sub.cons rfl (Sub.skip rfl (Sub.skip rfl (Sub.skip rfl (Sub.skip rfl (Sub.skip rfl (Sub.refl _))))))) hk
      ·intro hb111 hk
       refine o_guard_no rfl 126 rfl rfl rfl rfl rfl ?_
       refine o_guard_no rfl 126 rfl rfl rfl rfl rfl ?_
       refine o_guard_no rfl 126 rfl rfl rfl rfl rfl ?_
       refine o_pf (v := .bool false) rfl rfl rfl ?_
       exact o_sub (Sub.cons rfl (Sub.skip rfl (Sub.skip rfl (Sub.skip rfl (Sub.skip rfl (Sub.skip rfl (Sub.refl _))))))) hk
      refine o_mv (v := .bool (((Lfu.check u) == (Lfu.check u)) && (decide (((Lfu.access u key).1) = ((Lfu.touch u key).1))))) rfl rfl ?_
      refine o_and (p := 135) 4 (((Lfu.access u key).2.1) == ((Lfu.touch u key).2.1)) ?_ ?_ ?_
      ·intro hb112 hk
       simp only [Bool.and_eq_true, beq_iff_eq, decide_eq_true_eq] at hb112
       refine o_unguard 131 rfl rfl ?_
       refine o_mv (v := .bool ((Lfu.access u key).2.1)) rfl rfl ?_
       refine o_unguard 131 rfl rfl ?_
       refine o_mv (v := .bool ((Lfu.touch u key).2.1)) rfl rfl ?_
       refine o_unguard 131 rfl rfl ?_
       refine o_pure (p_eqBool (b := ((Lfu.access u key).2.1)) (c := ((Lfu.touch u key).2.1)) rfl rfl Try.underlying4) rfl rfl rfl ?_
       refine o_pt (v := .bool (((Lfu.access u key).2.1) == ((Lfu.touch u key).2.1))) rfl rfl rfl ?_
       exact o_sub (Sub.cons rfl (Sub.skip rfl (Sub.skip rfl (Sub.skip rfl (Sub.skip rfl (Sub.skip rfl (Sub.refl _))))))) hk
      ·intro hb112 hk
       refine o_guard_no rfl 131 rfl rfl rfl rfl rfl ?_
       refine o_guard_no rfl 131 rfl rfl rfl rfl rfl ?_
       refine o_guard_no rfl 131 rfl rfl rfl rfl rfl ?_
       refine o_pf (v := .bool false) rfl rfl rfl ?_
       exact o_sub (Sub.cons rfl (Sub.skip rfl (Sub.skip rfl (Sub.skip rfl (Sub.skip rfl (Sub.skip rfl (Sub.refl _))))))) hk
      refine o_mv (v := .bool ((((Lfu.check u) == (Lfu.check u)) && (decide (((Lfu.access u key).1) = ((Lfu.touch u key).1)))) && (((Lfu.access u key).2.1) == ((Lfu.touch u key).2.1)))) rfl rfl ?_
      refine o_and (p := 140) 4 (((Lfu.access u key).2.2) == ((Lfu.touch u key).2.2)) ?_ ?_ ?_
      ·intro hb113 hk
       simp only [Bool.and_eq_true, beq_iff_eq, decide_eq_true_eq] at hb113
       refine o_unguard 136 rfl rfl ?_
       refine o_mv (v := .int .i64 ((Lfu.access u key).2.2)) rfl rfl ?_
       refine o_unguard 136 rfl rfl ?_
       refine o_mv (v := .int .i64 ((Lfu.touch u key).2.2)) rfl rfl ?_
       refine o_unguard 136 rfl rfl ?_
       refine o_pure (p_eq (p := ((Lfu.access u key).2.2)) (q := ((Lfu.touch u key).2.2)) rfl rfl) rfl rfl rfl ?_
       refine o_pt (v := .bool (((Lfu.access u key).2.2) == ((Lfu.touch u key).2.2))) rfl rfl rfl ?_
       exact o_sub (Sub.cons rfl (Sub.skip rfl (Sub.skip rfl (Sub.skip rfl (Sub.skip rfl (Sub.skip rfl (Sub.refl _))))))) hk
      ·intro hb113 hk
       refine o_guard_no rfl 136 rfl rfl rfl rfl rfl ?_
       refine o_guard_no rfl 136 rfl rfl rfl rfl rfl ?_
       refine o_guard_no rfl 136 rfl rfl rfl rfl rfl ?_
       refine o_pf (v := .bool false) rfl rfl rfl ?_
       exact o_sub (Sub.cons rfl (Sub.skip rfl (Sub.skip rfl (Sub.skip rfl (Sub.skip rfl (Sub.skip rfl (Sub.refl _))))))) hk
      refine o_mv (v := .bool (((((Lfu.check u) == (Lfu.check u)) && (decide (((Lfu.access u key).1) = ((Lfu.touch u key).1)))) && (((Lfu.access u key).2.1) == ((Lfu.touch u key).2.1))) && (((Lfu.access u key).2.2) == ((Lfu.touch u key).2.2)))) rfl rfl ?_
      refine o_and (p := 145) 4 ((Lfu.accessErr u key) == (Lfu.check u)) ?_ ?_ ?_
      ·intro hb114 hk
       simp only [Bool.and_eq_true, beq_iff_eq, decide_eq_true_eq] at hb114
       refine o_unguard 141 rfl rfl ?_
       refine o_mv (v := .int .i64 (Lfu.accessErr u key)) rfl rfl ?_
       refine o_unguard 141 rfl rfl ?_
       refine o_mv (v := .int .i64 (Lfu.check u)) rfl rfl ?_
       refine o_unguard 141 rfl rfl ?_
       refine o_pure (p_eq (p := (Lfu.accessErr u key)) (q := (Lfu.check u)) rfl rfl) rfl rfl rfl ?_
       refine o_pt (v := .bool ((Lfu.accessErr u key) == (Lfu.check u))) rfl rfl rfl ?_
       exact o_sub (Sub.cons rfl (Sub.skip rfl (Sub.skip rfl (Sub.skip rfl (Sub.skip rfl (Sub.skip rfl (Sub.refl _))))))) hk
      ·intro hb114 hk
       refine o_guard_no rfl 141 rfl rfl rfl rfl rfl ?_
       refine o_guard_no rfl 141 rfl rfl rfl rfl rfl ?_
       refine o_guard_no rfl 141 rfl rfl rfl rfl rfl ?_
       refine o_pf (v := .bool false) rfl rfl rfl ?_
       exact o_sub (Sub.cons rfl (Sub.skip rfl (Sub.skip rfl (Sub.skip rfl (Sub.skip rfl (Sub.skip rfl (Sub.refl _))))))) hk
      refine o_mv (v := .bool ((((((Lfu.check u) == (Lfu.check u)) && (decide (((Lfu.access u key).1) = ((Lfu.touch u key).1)))) && (((Lfu.access u key).2.1) == ((Lfu.touch u key).2.1))) && (((Lfu.access u key).2.2) == ((Lfu.touch u key).2.2))) && ((Lfu.accessErr u key) == (Lfu.check u)))) rfl rfl ?_
      refine o_and (p := 150) 4 (decide (((Lfu.run u l).1) = ((Lfu.runGo u 0 l).1))) ?_ ?_ ?_
      ·intro hb115 hk
       simp only [Bool.and_eq_true, beq_iff_eq, decide_eq_true_eq] at hb115
       refine o_unguard 146 rfl rfl ?_
       refine o_pure (p_load_agg (i := 8) (vs := [.int .i64 (((Lfu.run u l).1).room), .slice a10 (((Lfu.run u l).1).list).length c11]) rfl rfl sh24 rfl rfl) rfl rfl rfl ?_
       refine o_unguard 146 rfl rfl ?_
       refine o_pure (p_load_agg (i := 4) (vs := [.int .i64 (((Lfu.runGo u 0 l).1).room), .slice a93 (((Lfu.runGo u 0 l).1).list).length c94]) rfl rfl sh24 rfl rfl) rfl rfl rfl ?_
       refine o_unguard 146 rfl rfl ?_
       refine o_call0 (v := .bool (decide (((Lfu.run u l).1) = ((Lfu.runGo u 0 l).1)))) rfl (sameUses_ok ((Lfu.run u l).1) a10 c11 ((Lfu.runGo u 0 l).1) a93 c94) hf26 (fun w hw => ⟨(rd_own (i := 9) rfl) w hw, (rd_loose (i := 1) rfl (fun hφ => by obtain ⟨h1, h2, h3⟩ := hφ; intro w hw; have g1 : a93 = au_0 := h1; have g2 : c94 = cu_0 := h2; have g3 : ((Lfu.runGo u 0 l).1).list = u.list := h3; rw [g1, g2, g3]; exact (rd_base (i := 13) rfl hu_0) w hw)) w hw⟩) rfl ?_
       refine o_pt (v := .bool (decide (((Lfu.run u l).1) = ((Lfu.runGo u 0 l).1)))) rfl rfl rfl ?_
       exact o_sub (Sub.cons rfl (Sub.skip rfl (Sub.skip rfl (Sub.skip rfl (Sub.skip rfl (Sub.skip rfl (Sub.refl _))))))) hk
      ·intro hb115 hk
       refine o_guard_no rfl 146 rfl rfl rfl rfl rfl ?_
       refine o_guard_no rfl 146 rfl rfl rfl rfl rfl ?_
       refine o_guard_no rfl 146 rfl rfl rfl rfl rfl ?_
       refine o_pf (v := .bool false) rfl rfl rfl ?_
       exact o_sub (Sub.cons rfl (Sub.skip rfl (Sub.skip rfl (Sub.skip rfl (Sub.skip rfl (Sub.skip rfl (Sub.refl _))))))) hk
      refine o_mv (v := .bool (((((((Lfu.check u) == (Lfu.check u)) && (decide (((Lfu.access u key).1) = ((Lfu.touch u key).1)))) && (((Lfu.access u key).2.1) == ((Lfu.touch u key).2.1))) && (((Lfu.access u key).2.2) == ((Lfu.touch u key).2.2))) && ((Lfu.accessErr u key) == (Lfu.check u))) && (decide (((Lfu.run u l).1) = ((Lfu.runGo u 0 l).1))))) rfl rfl ?_
      refine o_and (p := 155) 4 (((Lfu.run u l).2) == ((Lfu.runGo u 0 l).2)) ?_ ?_ ?_
      ·intro hb116 hk
       simp only [Bool.and_eq_true, beq_iff_eq, decide_eq_true_eq] at hb116
       refine o_unguard 151 rfl rfl ?_
       refine o_mv (v := .int .i64 ((Lfu.run u l).2)) rfl rfl ?_
       refine o_unguard 151 rfl rfl ?_
       refine o_mv (v := .int .i64 ((Lfu.runGo u 0 l).2)) rfl rfl ?_
       refine o_unguard 151 rfl rfl ?_
       refine o_pure (p_eq (p := ((Lfu.run u l).2)) (q := ((Lfu.runGo u 0 l).2)) rfl rfl) rfl rfl rfl ?_
       refine o_pt (v := .bool (((Lfu.run u l).2) == ((Lfu.runGo u 0 l).2))) rfl rfl rfl ?_
       exact o_sub (Sub.cons rfl (Sub.skip rfl (Sub.skip rfl (Sub.skip rfl (Sub.skip rfl (Sub.skip rfl (Sub.refl _))))))) hk
      ·intro hb116 hk
       refine o_guard_no rfl 151 rfl rfl rfl rfl rfl ?_
       refine o_guard_no rfl 151 rfl rfl rfl rfl rfl ?_
       refine o_guard_no rfl 151 rfl rfl rfl rfl rfl ?_
       refine o_pf (v := .bool false) rfl rfl rfl ?_
       exact o_sub (Sub.cons rfl (Sub.skip rfl (Sub.skip rfl (Sub.skip rfl (Sub.skip rfl (Sub.skip rfl (Sub.refl _))))))) hk
      refine o_mv (v := .bool ((((((((Lfu.check u) == (Lfu.check u)) && (decide (((Lfu.access u key).1) = ((Lfu.touch u key).1)))) && (((Lfu.access u key).2.1) == ((Lfu.touch u key).2.1))) && (((Lfu.access u key).2.2) == ((Lfu.touch u key).2.2))) && ((Lfu.accessErr u key) == (Lfu.check u))) && (decide (((Lfu.run u l).1) = ((Lfu.runGo u 0 l).1)))) && (((Lfu.run u l).2) == ((Lfu.runGo u 0 l).2)))) rfl rfl ?_
      refine o_and (p := 160) 4 ((Lfu.runErr u l) == (Lru.trace l)) ?_ ?_ ?_
      ·intro hb117 hk
       simp only [Bool.and_eq_true, beq_iff_eq, decide_eq_true_eq] at hb117
       refine o_unguard 156 rfl rfl ?_
       refine o_mv (v := .int .i64 (Lfu.runErr u l)) rfl rfl ?_
       refine o_unguard 156 rfl rfl ?_
       refine o_mv (v := .int .i64 (Lru.trace l)) rfl rfl ?_
       refine o_unguard 156 rfl rfl ?_
       refine o_pure (p_eq (p := (Lfu.runErr u l)) (q := (Lru.trace l)) rfl rfl) rfl rfl rfl ?_
       refine o_pt (v := .bool ((Lfu.runErr u l) == (Lru.trace l))) rfl rfl rfl ?_
       exact o_sub (Sub.cons rfl (Sub.skip rfl (Sub.skip rfl (Sub.skip rfl (Sub.skip rfl (Sub.skip rfl (Sub.refl _))))))) hk
      ·intro hb117 hk
       refine o_guard_no rfl 156 rfl rfl rfl rfl rfl ?_
       refine o_guard_no rfl 156 rfl rfl rfl rfl rfl ?_
       refine o_guard_no rfl 156 rfl rfl rfl rfl rfl ?_
       refine o_pf (v := .bool false) rfl rfl rfl ?_
       exact o_sub (Sub.cons rfl (Sub.skip rfl (Sub.skip rfl (Sub.skip rfl (Sub.skip rfl (Sub.skip rfl (Sub.refl _))))))) hk
      refine o_mv (v := .bool (((((((((Lfu.check u) == (Lfu.check u)) && (decide (((Lfu.access u key).1) = ((Lfu.touch u key).1)))) && (((Lfu.access u key).2.1) == ((Lfu.touch u key).2.1))) && (((Lfu.access u key).2.2) == ((Lfu.touch u key).2.2))) && ((Lfu.accessErr u key) == (Lfu.check u))) && (decide (((Lfu.run u l).1) = ((Lfu.runGo u 0 l).1)))) && (((Lfu.run u l).2) == ((Lfu.runGo u 0 l).2))) && ((Lfu.runErr u l) == (Lru.trace l)))) rfl rfl ?_
      refine o_and (p := 165) 4 (decide ((Lfu.age u) = ag)) ?_ ?_ ?_
      ·intro hb118 hk
       simp only [Bool.and_eq_true, beq_iff_eq, decide_eq_true_eq] at hb118
       refine o_unguard 161 rfl rfl ?_
       refine o_pure (p_load_agg (i := 6) (vs := [.int .i64 ((Lfu.age u).room), .slice a16 ((Lfu.age u).list).length c17]) rfl rfl sh24 rfl rfl) rfl rfl rfl ?_
       refine o_unguard 161 rfl rfl ?_
       refine o_pure (p_load_agg (i := 3) (vs := [.int .i64 ag.room, .slice aag_0 ag.list.length cag_0]) rfl rfl sh24 rfl rfl) rfl rfl rfl ?_
       refine o_unguard 161 rfl rfl ?_
       refine o_call0 (v := .bool (decide ((Lfu.age u) = ag))) rfl (sameUses_ok (Lfu.age u) a16 c17 ag aag_0 cag_0) hf26 (fun w hw => ⟨(rd_own (i := 7) rfl) w hw, (rd_own (i := 0) rfl) w hw⟩) rfl ?_
       refine o_pt (v := .bool (decide ((Lfu.age u) = ag))) rfl rfl rfl ?_
       exact o_sub (Sub.cons rfl (Sub.skip rfl (Sub.skip rfl (Sub.skip rfl (Sub.skip rfl (Sub.skip rfl (Sub.refl _))))))) hk
      ·intro hb118 hk
       refine o_guard_no rfl 161 rfl rfl rfl rfl rfl ?_
       refine o_guard_no rfl 161 rfl rfl rfl rfl rfl ?_
       refine o_guard_no rfl 161 rfl rfl rfl rfl rfl ?_
       refine o_pf (v := .bool false) rfl rfl rfl ?_
       exact o_sub (Sub.cons rfl (Sub.skip rfl (Sub.skip rfl (Sub.skip rfl (Sub.skip rfl (Sub.skip rfl (Sub.refl _))))))) hk
      refine o_mv (v := .bool ((((((((((Lfu.check u) == (Lfu.check u)) && (decide (((Lfu.access u key).1) = ((Lfu.touch u key).1)))) && (((Lfu.access u key).2.1) == ((Lfu.touch u key).2.1))) && (((Lfu.access u key).2.2) == ((Lfu.touch u key).2.2))) && ((Lfu.accessErr u key) == (Lfu.check u))) && (decide (((Lfu.run u l).1) = ((Lfu.runGo u 0 l).1)))) && (((Lfu.run u l).2) == ((Lfu.runGo u 0 l).2))) && ((Lfu.runErr u l) == (Lru.trace l))) && (decide ((Lfu.age u) = ag)))) rfl rfl ?_
      refine o_and (p := 170) 4 ((Lfu.check u) == (Lfu.check u)) ?_ ?_ ?_
      ·intro hb119 hk
       simp only [Bool.and_eq_true, beq_iff_eq, decide_eq_true_eq] at hb119
       refine o_unguard 166 rfl rfl ?_
       refine o_mv (v := .int .i64 (Lfu.check u)) rfl rfl ?_
       refine o_unguard 166 rfl rfl ?_
       refine o_mv (v := .int .i64 (Lfu.check u)) rfl rfl ?_
       refine o_unguard 166 rfl rfl ?_
       refine o_pure (p_eq (p := (Lfu.check u)) (q := (Lfu.check u)) rfl rfl) rfl rfl rfl ?_
       refine o_pt (v := .bool ((Lfu.check u) == (Lfu.check u))) rfl rfl rfl ?_
       exact o_sub (Sub.cons rfl (Sub.skip rfl (Sub.skip rfl (Sub.skip rfl (Sub.skip rfl (Sub.skip rfl (Sub.refl _))))))) hk
      ·intro hb119 hk
       refine o_guard_no rfl 166 rfl rfl rfl rfl rfl ?_
       refine o_guard_no rfl 166 rfl rfl rfl rfl rfl ?_
       refine o_guard_no rfl 166 rfl rfl rfl rfl rfl ?_
       refine o_pf (v := .bool false) rfl rfl rfl ?_
       exact o_sub (Sub.cons rfl (Sub.skip rfl (Sub.skip rfl (Sub.skip rfl (Sub.skip rfl (Sub.skip rfl (Sub.refl _))))))) hk
      refine o_mv (v := .bool (((((((((((Lfu.check u) == (Lfu.check u)) && (decide (((Lfu.access u key).1) = ((Lfu.touch u key).1)))) && (((Lfu.access u key).2.1) == ((Lfu.touch u key).2.1))) && (((Lfu.access u key).2.2) == ((Lfu.touch u key).2.2))) && ((Lfu.accessErr u key) == (Lfu.check u))) && (decide (((Lfu.run u l).1) = ((Lfu.runGo u 0 l).1)))) && (((Lfu.run u l).2) == ((Lfu.runGo u 0 l).2))) && ((Lfu.runErr u l) == (Lru.trace l))) && (decide ((Lfu.age u) = ag))) && ((Lfu.check u) == (Lfu.check u)))) rfl rfl ?_
      refine o_and (p := 175) 4 ((Lfu.victim u) == ((u.list.getD (Lfu.least u.list) default).key)) ?_ ?_ ?_
      ·intro hb120 hk
       simp only [Bool.and_eq_true, beq_iff_eq, decide_eq_true_eq] at hb120
       refine o_unguard 171 rfl rfl ?_
       refine o_mv (v := .int .i64 (Lfu.victim u)) rfl rfl ?_
       refine o_unguard 171 rfl rfl ?_
       refine o_mv (v := .int .i64 ((u.list.getD (Lfu.least u.list) default).key)) rfl rfl ?_
       refine o_unguard 171 rfl rfl ?_
       refine o_pure (p_eq (p := (Lfu.victim u)) (q := ((u.list.getD (Lfu.least u.list) default).key)) rfl rfl) rfl rfl rfl ?_
       refine o_pt (v := .bool ((Lfu.victim u) == ((u.list.getD (Lfu.least u.list) default).key))) rfl rfl rfl ?_
       exact o_sub (Sub.cons rfl (Sub.skip rfl (Sub.skip rfl (Sub.skip rfl (Sub.skip rfl (Sub.skip rfl (Sub.refl _))))))) hk
      ·intro hb120 hk
       refine o_guard_no rfl 171 rfl rfl rfl rfl rfl ?_
       refine o_guard_no rfl 171 rfl rfl rfl rfl rfl ?_
       refine o_guard_no rfl 171 rfl rfl rfl rfl rfl ?_
       refine o_pf (v := .bool false) rfl rfl rfl ?_
       exact o_sub (Sub.cons rfl (Sub.skip rfl (Sub.skip rfl (Sub.skip rfl (Sub.skip rfl (Sub.skip rfl (Sub.refl _))))))) hk
      refine o_mv (v := .bool ((((((((((((Lfu.check u) == (Lfu.check u)) && (decide (((Lfu.access u key).1) = ((Lfu.touch u key).1)))) && (((Lfu.access u key).2.1) == ((Lfu.touch u key).2.1))) && (((Lfu.access u key).2.2) == ((Lfu.touch u key).2.2))) && ((Lfu.accessErr u key) == (Lfu.check u))) && (decide (((Lfu.run u l).1) = ((Lfu.runGo u 0 l).1)))) && (((Lfu.run u l).2) == ((Lfu.runGo u 0 l).2))) && ((Lfu.runErr u l) == (Lru.trace l))) && (decide ((Lfu.age u) = ag))) && ((Lfu.check u) == (Lfu.check u))) && ((Lfu.victim u) == ((u.list.getD (Lfu.least u.list) default).key)))) rfl rfl ?_
      refine o_and (p := 180) 4 ((Lfu.victimErr u) == (Lfu.check u)) ?_ ?_ ?_
      ·intro hb121 hk
       simp only [Bool.and_eq_true, beq_iff_eq, decide_eq_true_eq] at hb121
       refine o_unguard 176 rfl rfl ?_
       refine o_mv (v := .int .i64 (Lfu.victimErr u)) rfl rfl ?_
       refine o_unguard 176 rfl rfl ?_
       refine o_mv (v := .int .i64 (Lfu.check u)) rfl rfl ?_
       refine o_unguard 176 rfl rfl ?_
       refine o_pure (p_eq (p := (Lfu.victimErr u)) (q := (Lfu.check u)) rfl rfl) rfl rfl rfl ?_
       refine o_pt (v := .bool ((Lfu.victimErr u) == (Lfu.check u))) rfl rfl rfl ?_
       exact o_sub (Sub.cons rfl (Sub.skip rfl (Sub.skip rfl (Sub.skip rfl (Sub.skip rfl (Sub.skip rfl (Sub.refl _))))))) hk
      ·intro hb121 hk
       refine o_guard_no rfl 176 rfl rfl rfl rfl rfl ?_
       refine o_guard_no rfl 176 rfl rfl rfl rfl rfl ?_
       refine o_guard_no rfl 176 rfl rfl rfl rfl rfl ?_
       refine o_pf (v := .bool false) rfl rfl rfl ?_
       exact o_sub (Sub.cons rfl (Sub.skip rfl (Sub.skip rfl (Sub.skip rfl (Sub.skip rfl (Sub.skip rfl (Sub.refl _))))))) hk
      refine o_pure (p_assign (v := .bool (((((((((((((Lfu.check u) == (Lfu.check u)) && (decide (((Lfu.access u key).1) = ((Lfu.touch u key).1)))) && (((Lfu.access u key).2.1) == ((Lfu.touch u key).2.1))) && (((Lfu.access u key).2.2) == ((Lfu.touch u key).2.2))) && ((Lfu.accessErr u key) == (Lfu.check u))) && (decide (((Lfu.run u l).1) = ((Lfu.runGo u 0 l).1)))) && (((Lfu.run u l).2) == ((Lfu.runGo u 0 l).2))) && ((Lfu.runErr u l) == (Lru.trace l))) && (decide ((Lfu.age u) = ag))) && ((Lfu.check u) == (Lfu.check u))) && ((Lfu.victim u) == ((u.list.getD (Lfu.least u.list) default).key))) && ((Lfu.victimErr u) == (Lfu.check u)))) rfl) rfl rfl rfl ?_
      refine o_nil ?_
      refine q_then ?_
      refine c_ret ?_
      have hr0 : ((((((((((((((Lfu.check u) == (Lfu.check u)) && (decide (((Lfu.access u key).1) = ((Lfu.touch u key).1)))) && (((Lfu.access u key).2.1) == ((Lfu.touch u key).2.1))) && (((Lfu.access u key).2.2) == ((Lfu.touch u key).2.2))) && ((Lfu.accessErr u key) == (Lfu.check u))) && (decide (((Lfu.run u l).1) = ((Lfu.runGo u 0 l).1)))) && (((Lfu.run u l).2) == ((Lfu.runGo u 0 l).2))) && ((Lfu.runErr u l) == (Lru.trace l))) && (decide ((Lfu.age u) = ag))) && ((Lfu.check u) == (Lfu.check u))) && ((Lfu.victim u) == ((u.list.getD (Lfu.least u.list) default).key))) && ((Lfu.victimErr u) == (Lfu.check u))) : Bool) = true := by
       rcases Lfu.acc_num u key with ⟨a0, a1, a2⟩ | ⟨a0, a3, a1, a2⟩ | ⟨a0, a3, a1, a2⟩ <;> rcases Lfu.run_cases u l with ⟨b0, b1, b2⟩ | ⟨b0, b3, b1, b2⟩ | ⟨b0, b3, b1, b2⟩ <;> rcases Lfu.vic_cases u with ⟨s0, s1, s2⟩ | ⟨s0, s3, s1, s2⟩ | ⟨s0, s3, s1, s2⟩ <;> first | (exfalso; omega) | (rw [a1, a2, b1, b2, s1, s2]; first | (simp [Lfu.zero, Lfu.age, a0]; done) | (simp [Lfu.zero, Lfu.age, a0, b3]; done) | (have hag := Lfu.age_of hI.1 (hI.2.done (by omega)); rw [hag]; simp [Lfu.zero, Lfu.age, a0, b3]; done))
      refine q_end0 (v := .bool (((((((((((((Lfu.check u) == (Lfu.check u)) && (decide (((Lfu.access u key).1) = ((Lfu.touch u key).1)))) && (((Lfu.access u key).2.1) == ((Lfu.touch u key).2.1))) && (((Lfu.access u key).2.2) == ((Lfu.touch u key).2.2))) && ((Lfu.accessErr u key) == (Lfu.check u))) && (decide (((Lfu.run u l).1) = ((Lfu.runGo u 0 l).1)))) && (((Lfu.run u l).2) == ((Lfu.runGo u 0 l).2))) && ((Lfu.runErr u l) == (Lru.trace l))) && (decide ((Lfu.age u) = ag))) && ((Lfu.check u) == (Lfu.check u))) && ((Lfu.victim u) == ((u.list.getD (Lfu.least u.list) default).key))) && ((Lfu.victimErr u) == (Lfu.check u)))) (rt1 rfl (r_tmp rfl)) (i := 13) rfl ?_
      exact (by have hcc := congrArg (fun (y0 : Bool) => (.bool y0 : Value)) hr0; exact hcc)
   ·simp only [beq_eq_false_iff_ne, ne_eq] at hc90
    refine c_skip ?_
    refine q_then ?_
    refine c_seq ?_
    refine c_held hmix [own tUse S85 a87 c88 (((Lfu.touch u key).1).list), box B21 [.int .i64 0, .slice none 0 0] 24, box B20 [.int .i64 (((Lfu.touch u key).1).room), .slice a87 (((Lfu.touch u key).1).list).length c88] 24, box B19 [.int .i64 ((Lfu.age u).room), .slice a16 ((Lfu.age u).list).length c17] 24, own tUse S14 a16 c17 ((Lfu.age u).list), box B13 [.int .i64 (((Lfu.run u l).1).room), .slice a10 (((Lfu.run u l).1).list).length c11] 24, own tUse S8 a10 c11 (((Lfu.run u l).1).list), box B7 [.int .i64 (((Lfu.access u key).1).room), .slice a4 (((Lfu.access u key).1).list).length c5] 24, own tUse S2 a4 c5 (((Lfu.access u key).1).list), box B1 [.int .i64 u.room, .slice au_0 u.list.length cu_0] 24, base w0] rfl rfl ?_
    refine h_take (i := 0) (ls := #[true, false, false, false, false, false, false, false]) rfl (by kernel_rfl) (by kernel_rfl) (by kernel_rfl) (fun _ _ _ h => h) (p_fieldAddr (B := B1) (j := 0) (j' := 0) rfl fo24_0 rfl) rfl rfl rfl (fun _ hw => HeapIs.drop hw (List.Sublist.cons_cons _ (List.Sublist.cons _ (List.Sublist.cons_cons _ (List.Sublist.cons_cons _ (List.Sublist.cons_cons _ (List.Sublist.cons_cons _ (List.Sublist.cons_cons _ (List.Sublist.cons_cons _ (List.Sublist.cons_cons _ (List.Sublist.cons_cons _ (List.Sublist.cons_cons _ (List.Sublist.cons_cons _ (List.Sublist.slnil)))))))))))))) rfl ?_
    refine h_take (i := 1) (ls := #[true, true, false, false, false, false, false, false]) rfl (by kernel_rfl) (by kernel_rfl) (by kernel_rfl) (fun _ _ _ h => h) (p_load (i := 9) (v := .int .i64 u.room) rfl rfl sh3 rfl) rfl rfl rfl (fun _ hw => HeapIs.drop hw (List.Sublist.cons_cons _ (List.Sublist.cons _ (List.Sublist.cons_cons _ (List.Sublist.cons_cons _ (List.Sublist.cons_cons _ (List.Sublist.cons_cons _ (List.Sublist.cons_cons _ (List.Sublist.cons_cons _ (List.Sublist.cons_cons _ (List.Sublist.cons_cons _ (List.Sublist.cons_cons _ (List.Sublist.cons_cons _ (List.Sublist.slnil)))))))))))))) rfl ?_
    refine h_take (i := 3) (ls := #[true, true, false, true, false, false, false, false]) rfl (by kernel_rfl) (by kernel_rfl) (by kernel_rfl) (fun _ _ _ h => h) (p_fieldAddr (B := B1) (j := 0) (j' := 1) rfl fo24_1 rfl) rfl rfl rfl (fun _ hw => HeapIs.drop hw (List.Sublist.cons_cons _ (List.Sublist.cons _ (List.Sublist.cons_cons _ (List.Sublist.cons_cons _ (List.Sublist.cons_cons _ (List.Sublist.cons_cons _ (List.Sublist.cons_cons _ (List.Sublist.cons_cons _ (List.Sublist.cons_cons _ (List.Sublist.cons_cons _ (List.Sublist.cons_cons _ (List.Sublist.cons_cons _ (List.Sublist.slnil)))))))))))))) rfl ?_
    refine h_take (i := 4) (ls := #[true, true, false, true, true, false, false, false]) rfl (by kernel_rfl) (by kernel_rfl) (by kernel_rfl) (fun _ _ _ h => h) (p_load (i := 9) (v := .slice au_0 u.list.length cu_0) rfl rfl sh22 rfl) rfl rfl rfl (fun _ hw => HeapIs.drop hw (List.Sublist.cons_cons _ (List.Sublist.cons _ (List.Sublist.cons_cons _ (List.Sublist.cons_cons _ (List.Sublist.cons_cons _ (List.Sublist.cons_cons _ (List.Sublist.cons_cons _ (List.Sublist.cons_cons _ (List.Sublist.cons_cons _ (List.Sublist.cons_cons _ (List.Sublist.cons_cons _ (List.Sublist.cons_cons _ (List.Sublist.slnil)))))))))))))) rfl ?_
    refine h_one (i := 2) (ls := #[true, true, true, true, true, false, false, false]) (by kernel_rfl) rfl rfl ?_
    refine o_buildSlice (m := 0) (T := tUse) (L := []) (vs := []) rfl rfl rfl rfl Try.underlying22 sz42 (by decide) ze42 rfl (by decide) rfl (fun S122_2 a122_2 => ?_)
    refine o_nil ?_
    refine h_next (fun _ hw => HeapIs.drop hw (List.Sublist.cons _ (List.Sublist.cons_cons _ (List.Sublist.cons _ (List.Sublist.cons_cons _ (List.Sublist.cons_cons _ (List.Sublist.cons_cons _ (List.Sublist.cons_cons _ (List.Sublist.cons_cons _ (List.Sublist.cons_cons _ (List.Sublist.cons_cons _ (List.Sublist.cons_cons _ (List.Sublist.cons_cons _ (List.Sublist.cons_cons _ (List.Sublist.slnil))))))))))))))) ?_
    refine h_one (i := 5) (ls := #[true, true, true, true, true, true, false, false]) (by kernel_rfl) rfl rfl ?_
    refine o_append (i := 0) (L := []) (M := u.list) (T := tUse) rfl rfl rfl (rd_base (i := 12) rfl hu_0) Try.underlying22 Try.underlying22 (by intro k h; cases h) el42 (by intro z; simp [tUse, one1]) (by decide) (by first | omega | (simp only [List.length_cons, List.length_nil]; omega) | (simp only [List.length_append, List.length_cons, List.length_nil, List.length_take, List.length_drop]; omega)) rfl (fun a122_5 c122_5 S122_5 => ?_)
    refine o_nil ?_
    refine h_next (fun _ hw => HeapIs.drop hw (List.Sublist.cons _ (List.Sublist.cons_cons _ (List.Sublist.cons _ (List.Sublist.cons_cons _ (List.Sublist.cons_cons _ (List.Sublist.cons_cons _ (List.Sublist.cons_cons _ (List.Sublist.cons_cons _ (List.Sublist.cons_cons _ (List.Sublist.cons_cons _ (List.Sublist.cons_cons _ (List.Sublist.cons_cons _ (List.Sublist.cons_cons _ (List.Sublist.slnil))))))))))))))) ?_
    refine h_take (i := 6) (ls := #[true, true, true, true, true, true, true, false]) rfl (by kernel_rfl) (by kernel_rfl) (by kernel_rfl) (fun _ _ _ h => h) (p_build (cells := [.int .i64 u.room, .slice a122_5 u.list.length c122_5]) fp24 ze24 rfl rfl) rfl rfl rfl (fun _ hw => HeapIs.drop hw (List.Sublist.cons _ (List.Sublist.cons_cons _ (List.Sublist.cons _ (List.Sublist.cons_cons _ (List.Sublist.cons_cons _ (List.Sublist.cons_cons _ (List.Sublist.cons_cons _ (List.Sublist.cons_cons _ (List.Sublist.cons_cons _ (List.Sublist.cons_cons _ (List.Sublist.cons_cons _ (List.Sublist.cons_cons _ (List.Sublist.cons_cons _ (List.Sublist.slnil))))))))))))))) rfl ?_
    refine h_one (i := 7) (ls := #[true, true, true, true, true, true, true, true]) (by kernel_rfl) rfl rfl ?_
    refine o_storeN (i := 2) (vs := [.int .i64 u.room, .slice a122_5 u.list.length c122_5]) (cs' := [.int .i64 u.room, .slice a122_5 u.list.length c122_5]) rfl rfl rfl sz24 rfl rfl rfl rfl ?_
    refine o_nil ?_
    refine h_next (fun _ hw => HeapIs.drop hw (List.Sublist.cons _ (List.Sublist.cons_cons _ (List.Sublist.cons _ (List.Sublist.cons_cons _ (List.Sublist.cons_cons _ (List.Sublist.cons_cons _ (List.Sublist.cons_cons _ (List.Sublist.cons_cons _ (List.Sublist.cons_cons _ (List.Sublist.cons_cons _ (List.Sublist.cons_cons _ (List.Sublist.cons_cons _ (List.Sublist.cons_cons _ (List.Sublist.slnil))))))))))))))) ?_
    refine h_done (by kernel_rfl) ?_
    refine q_then ?_
    refine c_seq ?_
    refine c_seq ?_
    refine c_region ?_
    refine o_pure (p_assign (v := .int .i64 0) rfl) rfl rfl rfl ?_
    refine o_nil ?_
    refine q_then ?_
    refine c_block ?_
    refine c_loop (St := Nat × DUses × Option Addr × Nat × (Nat → Prop))
     (fun ⟨i, ag, aag_0, cag_0, Sag_0⟩ => [(3, .pointer (some ⟨B1, 0, none⟩)), (7, .pointer (some ⟨B7, 0, none⟩)), (8, .bool ((Lfu.access u key).2.1)), (9, .int .i64 ((Lfu.access u key).2.2)), (10, .int .i64 (Lfu.accessErr u key)), (11, .pointer (some ⟨B13, 0, none⟩)), (12, .int .i64 ((Lfu.run u l).2)), (13, .int .i64 (Lfu.runErr u l)), (14, .pointer (some ⟨B19, 0, none⟩)), (15, .int .i64 (Lfu.check u)), (16, .int .i64 (Lfu.victim u)), (17, .int .i64 (Lfu.victimErr u)), (18, .int .i64 (Lfu.check u)), (19, .int .i64 (Lfu.check u)), (20, .int .i64 (Lru.trace l)), (21, .int .i64 (Lfu.check u)), (22, .pointer (some ⟨B20, 0, none⟩)), (23, .pointer (some ⟨B21, 0, none⟩)), (24, .pointer (some ⟨B22, 0, none⟩)), (25, .bool ((Lfu.touch u key).2.1)), (26, .int .i64 ((Lfu.touch u key).2.2)), (27, .int .i64 0), (28, .int .i64 0), (29, .int .i64 (i : Int))])
     (fun ⟨i, ag, aag_0, cag_0, Sag_0⟩ => [own tUse Sag_0 aag_0 cag_0 ag.list, own tUse S85 a87 c88 (((Lfu.touch u key).1).list), box B22 [.int .i64 ag.room, .slice aag_0 ag.list.length cag_0] 24, box B21 [.int .i64 0, .slice none 0 0] 24, box B20 [.int .i64 (((Lfu.touch u key).1).room), .slice a87 (((Lfu.touch u key).1).list).length c88] 24, box B19 [.int .i64 ((Lfu.age u).room), .slice a16 ((Lfu.age u).list).length c17] 24, own tUse S14 a16 c17 ((Lfu.age u).list), box B13 [.int .i64 (((Lfu.run u l).1).room), .slice a10 (((Lfu.run u l).1).list).length c11] 24, own tUse S8 a10 c11 (((Lfu.run u l).1).list), box B7 [.int .i64 (((Lfu.access u key).1).room), .slice a4 (((Lfu.access u key).1).list).length c5] 24, own tUse S2 a4 c5 (((Lfu.access u key).1).list), box B1 [.int .i64 u.room, .slice au_0 u.list.length cu_0] 24, base w0])
     (fun ⟨i, ag, aag_0, cag_0, Sag_0⟩ => ag.room = u.room ∧ Lfu.GInv u.list ag.list i)
     (fun ⟨i, ag, aag_0, cag_0, Sag_0⟩ => u.list.length - i)
     (0, u, a122_5, c122_5, S122_5) ?_ (Sub.cons rfl (Sub.cons rfl (Sub.cons rfl (Sub.cons rfl (Sub.cons rfl (Sub.cons rfl (Sub.cons rfl (Sub.cons rfl (Sub.cons rfl (Sub.cons rfl (Sub.cons rfl (Sub.cons rfl (Sub.cons rfl (Sub.cons rfl (Sub.cons rfl (Sub.cons rfl (Sub.cons rfl (Sub.cons rfl (Sub.cons rfl (Sub.cons rfl (Sub.cons rfl (Sub.cons rfl (Sub.cons rfl (Sub.cons rfl (Sub.nil _))))))))))))))))))))))))) (fun _ hw => hw) ?_
    ·exact ⟨rfl, Lfu.GInv.start _⟩
    rintro ⟨i, ag, aag_0, cag_0, Sag_0⟩ hI K hK123
    have hul := hI.2.len
    show SC _ _ Try.prog 181 w0 _ _ [(3, .pointer (some ⟨B1, 0, none⟩)), (7, .pointer (some ⟨B7, 0, none⟩)), (8, .bool ((Lfu.access u key).2.1)), (9, .int .i64 ((Lfu.access u key).2.2)), (10, .int .i64 (Lfu.accessErr u key)), (11, .pointer (some ⟨B13, 0, none⟩)), (12, .int .i64 ((Lfu.run u l).2)), (13, .int .i64 (Lfu.runErr u l)), (14, .pointer (some ⟨B19, 0, none⟩)), (15, .int .i64 (Lfu.check u)), (16, .int .i64 (Lfu.victim u)), (17, .int .i64 (Lfu.victimErr u)), (18, .int .i64 (Lfu.check u)), (19, .int .i64 (Lfu.check u)), (20, .int .i64 (Lru.trace l)), (21, .int .i64 (Lfu.check u)), (22, .pointer (some ⟨B20, 0, none⟩)), (23, .pointer (some ⟨B21, 0, none⟩)), (24, .pointer (some ⟨B22, 0, none⟩)), (25, .bool ((Lfu.touch u key).2.1)), (26, .int .i64 ((Lfu.touch u key).2.2)), (27, .int .i64 0), (28, .int .i64 0), (29, .int .i64 (i : Int))] [own tUse Sag_0 aag_0 cag_0 ag.list, own tUse S85 a87 c88 (((Lfu.touch u key).1).list), box B22 [.int .i64 ag.room, .slice aag_0 ag.list.length cag_0] 24, box B21 [.int .i64 0, .slice none 0 0] 24, box B20 [.int .i64 (((Lfu.touch u key).1).room), .slice a87 (((Lfu.touch u key).1).list).length c88] 24, box B19 [.int .i64 ((Lfu.age u).room), .slice a16 ((Lfu.age u).list).length c17] 24, own tUse S14 a16 c17 ((Lfu.age u).list), box B13 [.int .i64 (((Lfu.run u l).1).room), .slice a10 (((Lfu.run u l).1).list).length c11] 24, own tUse S8 a10 c11 (((Lfu.run u l).1).list), box B7 [.int .i64 (((Lfu.access u key).1).room), .slice a4 (((Lfu.access u key).1).list).length c5] 24, own tUse S2 a4 c5 (((Lfu.access u key).1).list), box B1 [.int .i64 u.room, .slice au_0 u.list.length cu_0] 24, base w0]
    refine c_seq ?_
    refine c_seq ?_
    refine c_region ?_
    refine o_mv (v := .int .i64 (i : Int)) rfl rfl ?_
    refine o_pure (p_fieldAddr (B := B22) (j := 0) (j' := 1) rfl fo24_1 rfl) rfl rfl rfl ?_
    refine o_pure (p_load (i := 2) (v := .slice aag_0 ag.list.length cag_0) rfl rfl sh22 rfl) rfl rfl rfl ?_
    refine o_pure (p_len_slice (len := ag.list.length) rfl rfl Try.underlying22) rfl rfl rfl ?_
    refine o_pure (p_lt (p := (i : Int)) (q := (ag.list.length : Int)) rfl rfl) rfl rfl rfl ?_
    refine o_nil ?_
    refine q_then ?_
    refine c_cond (b := decide ((i : Int) < (ag.list.length : Int))) rfl (fun hc124 => ?_) (fun hc124 => ?_)
    ·simp only [decide_eq_true_eq] at hc124
     have hcb := hI.2.cnt hok (by omega)
     have hhb := Lfu.half_bd hcb
     refine c_skip ?_
     refine q_then ?_
     refine c_seq ?_
     refine c_block ?_
     refine c_held hmix [ownE tUse Sag_0 aag_0 cag_0 (ag.list.length), own tUse S85 a87 c88 (((Lfu.touch u key).1).list), box B22 [.int .i64 ag.room, .slice aag_0 ag.list.length cag_0] 24, box B21 [.int .i64 0, .slice none 0 0] 24, box B20 [.int .i64 (((Lfu.touch u key).1).room), .slice a87 (((Lfu.touch u key).1).list).length c88] 24, box B19 [.int .i64 ((Lfu.age u).room), .slice a16 ((Lfu.age u).list).length c17] 24, own tUse S14 a16 c17 ((Lfu.age u).list), box B13 [.int .i64 (((Lfu.run u l).1).room), .slice a10 (((Lfu.run u l).1).list).length c11] 24, own tUse S8 a10 c11 (((Lfu.run u l).1).list), box B7 [.int .i64 (((Lfu.access u key).1).room), .slice a4 (((Lfu.access u key).1).list).length c5] 24, own tUse S2 a4 c5 (((Lfu.access u key).1).list), box B1 [.int .i64 u.room, .slice au_0 u.list.length cu_0] 24, base w0] rfl rfl ?_
     refine h_take (i := 0) (ls := #[true, false, false, false, false, false, false, false, false, false, false, false, false, false]) rfl (by kernel_rfl) (by kernel_rfl) (by kernel_rfl) (fun _ _ _ h => h) (p_fieldAddr (B := B22) (j := 0) (j' := 1) rfl fo24_1 rfl) rfl rfl rfl (fun _ hw => HeapIs.drop (HeapIs.toE (i := 0) (m := ag.list.length) (T := tUse) rfl (by simp only [List.length_set]) hw) (List.Sublist.refl _)) rfl ?_
     refine h_take (i := 1) (ls := #[true, true, false, false, false, false, false, false, false, false, false, false, false, false]) rfl (by kernel_rfl) (by kernel_rfl) (by kernel_rfl) (fun _ _ _ h => h) (p_load (i := 2) (v := .slice aag_0 ag.list.length cag_0) rfl rfl sh22 rfl) rfl rfl rfl (fun _ hw => HeapIs.drop (HeapIs.toE (i := 0) (m := ag.list.length) (T := tUse) rfl (by simp only [List.length_set]) hw) (List.Sublist.refl _)) rfl ?_
     refine h_take (i := 2) (ls := #[true, true, true, false, false, false, false, false, false, false, false, false, false, false]) rfl (by kernel_rfl) (by kernel_rfl) (by kernel_rfl) (fun _ _ _ h => h) (p_move (v := .int .i64 (i : Int)) rfl) rfl rfl rfl (fun _ hw => HeapIs.drop (HeapIs.toE (i := 0) (m := ag.list.length) (T := tUse) rfl (by simp only [List.length_set]) hw) (List.Sublist.refl _)) rfl ?_
     refine h_take (i := 3) (ls := #[true, true, true, true, false, false, false, false, false, false, false, false, false, false]) rfl (by kernel_rfl) (by kernel_rfl) (by kernel_rfl) (fun _ _ _ h => h) (p_fieldAddr (B := B22) (j := 0) (j' := 1) rfl fo24_1 rfl) rfl rfl rfl (fun _ hw => HeapIs.drop (HeapIs.toE (i := 0) (m := ag.list.length) (T := tUse) rfl (by simp only [List.length_set]) hw) (List.Sublist.refl _)) rfl ?_
     refine h_take (i := 4) (ls := #[true, true, true, true, true, false, false, false, false, false, false, false, false, false]) rfl (by kernel_rfl) (by kernel_rfl) (by kernel_rfl) (fun _ _ _ h => h) (p_load (i := 2) (v := .slice aag_0 ag.list.length cag_0) rfl rfl sh22 rfl) rfl rfl rfl (fun _ hw => HeapIs.drop (HeapIs.toE (i := 0) (m := ag.list.length) (T := tUse) rfl (by simp only [List.length_set]) hw) (List.Sublist.refl _)) rfl ?_
     refine h_take (i := 5) (ls := #[true, true, true, true, true, true, false, false, false, false, false, false, false, false]) rfl (by kernel_rfl) (by kernel_rfl) (by kernel_rfl) (fun _ _ _ h => h) (p_move (v := .int .i64 (i : Int)) rfl) rfl rfl rfl (fun _ hw => HeapIs.drop (HeapIs.toE (i := 0) (m := ag.list.length) (T := tUse) rfl (by simp only [List.length_set]) hw) (List.Sublist.refl _)) rfl ?_
     refine h_take (i := 6) (ls := #[true, true, true, true, true, true, true, false, false, false, false, false, false, false]) rfl (by kernel_rfl) (by kernel_rfl) (by kernel_rfl) (fun _ _ _ h => h) (p_indexAddrE (T := tUse) (i := (i : Int)) (j := 0) rfl rfl rfl Try.underlying22 sz42 (by omega) (by omega)) rfl rfl rfl (fun _ hw => HeapIs.drop (HeapIs.toE (i := 0) (m := ag.list.length) (T := tUse) rfl (by simp only [List.length_set]) hw) (List.Sublist.refl _)) rfl ?_
     refine h_take (i := 7) (ls := #[true, true, true, true, true, true, true, true, false, false, false, false, false, false]) rfl (by kernel_rfl) (by kernel_rfl) (by kernel_rfl) (fun _ _ _ h => h) (p_fieldAddrE rfl fo42_1) rfl rfl rfl (fun _ hw => HeapIs.drop (HeapIs.toE (i := 0) (m := ag.list.length) (T := tUse) rfl (by simp only [List.length_set]) hw) (List.Sublist.refl _)) rfl ?_
     refine h_one (i := 8) (ls := #[true, true, true, true, true, true, true, true, true, false, false, false, false, false]) (by kernel_rfl) rfl rfl ?_
     refine o_pure (p_loadF (i := i) (j := 1) (T := tUse) (L := ag.list) (v := .int .i64 ((ag.list[i]).count)) rfl (rd_own (i := 0) rfl) (by first | assumption | omega) sh3 rfl) rfl rfl rfl ?_
     refine o_nil ?_
     refine h_next (fun _ hw => HeapIs.drop (HeapIs.toE (i := 0) (m := ag.list.length) (T := tUse) rfl (by simp only [List.length_set]) hw) (List.Sublist.refl _)) ?_
     refine h_take (i := 9) (ls := #[true, true, true, true, true, true, true, true, true, true, false, false, false, false]) rfl (by kernel_rfl) (by kernel_rfl) (by kernel_rfl) (fun _ _ _ h => h) (p_quob (p := (ag.list[i]).count) (q := 2) rfl rfl (by decide) (by omega)) rfl rfl rfl (fun _ hw => HeapIs.drop (HeapIs.toE (i := 0) (m := ag.list.length) (T := tUse) rfl (by simp only [List.length_set]) hw) (List.Sublist.refl _)) rfl ?_
     refine h_take (i := 10) (ls := #[true, true, true, true, true, true, true, true, true, true, true, false, false, false]) rfl (by kernel_rfl) (by kernel_rfl) (by kernel_rfl) (fun _ _ _ h => h) (p_max (p := 1) (q := (((ag.list[i]).count).tdiv 2)) rfl rfl) rfl rfl rfl (fun _ hw => HeapIs.drop (HeapIs.toE (i := 0) (m := ag.list.length) (T := tUse) rfl (by simp only [List.length_set]) hw) (List.Sublist.refl _)) rfl ?_
     refine h_take (i := 11) (ls := #[true, true, true, true, true, true, true, true, true, true, true, true, false, false]) rfl (by kernel_rfl) (by kernel_rfl) (by kernel_rfl) (fun _ _ _ h => h) (p_indexAddrE (T := tUse) (i := (i : Int)) (j := 0) rfl rfl rfl Try.underlying22 sz42 (by omega) (by omega)) rfl rfl rfl (fun _ hw => HeapIs.drop (HeapIs.toE (i := 0) (m := ag.list.length) (T := tUse) rfl (by simp only [List.length_set]) hw) (List.Sublist.refl _)) rfl ?_
     refine h_take (i := 12) (ls := #[true, true, true, true, true, true, true, true, true, true, true, true, true, false]) rfl (by kernel_rfl) (by kernel_rfl) (by kernel_rfl) (fun _ _ _ h => h) (p_fieldAddrE rfl fo42_1) rfl rfl rfl (fun _ hw => HeapIs.drop (HeapIs.toE (i := 0) (m := ag.list.length) (T := tUse) rfl (by simp only [List.length_set]) hw) (List.Sublist.refl _)) rfl ?_
     refine h_one (i := 13) (ls := #[true, true, true, true, true, true, true, true, true, true, true, true, true, true]) (by kernel_rfl) rfl rfl ?_
     refine o_storeF (j := 1) (i := 0) (T := tUse) (idx := i) (v := .int .i64 (max 1 (((ag.list[i]).count).tdiv 2))) (vs := [.int .i64 (max 1 (((ag.list[i]).count).tdiv 2))]) (z := (⟨(ag.list[i]).key, (max 1 (((ag.list[i]).count).tdiv 2))⟩ : DUse)) rfl rfl rfl rfl (by first | assumption | omega | (simp only [List.length_set]; omega)) sz3 rfl rfl rfl rfl (Sub.refl _) ?_
     refine o_nil ?_
     refine h_next (fun _ hw => HeapIs.drop (HeapIs.toE (i := 0) (m := ag.list.length) (T := tUse) rfl (by simp only [List.length_set]) hw) (List.Sublist.refl _)) ?_
     refine h_done (by kernel_rfl) ?_
     refine q_cast (F' := [(3, .pointer (some ⟨B1, 0, none⟩)), (7, .pointer (some ⟨B7, 0, none⟩)), (8, .bool ((Lfu.access u key).2.1)), (9, .int .i64 ((Lfu.access u key).2.2)), (10, .int .i64 (Lfu.accessErr u key)), (11, .pointer (some ⟨B13, 0, none⟩)), (12, .int .i64 ((Lfu.run u l).2)), (13, .int .i64 (Lfu.runErr u l)), (14, .pointer (some ⟨B19, 0, none⟩)), (15, .int .i64 (Lfu.check u)), (16, .int .i64 (Lfu.victim u)), (17, .int .i64 (Lfu.victimErr u)), (18, .int .i64 (Lfu.check u)), (19, .int .i64 (Lfu.check u)), (20, .int .i64 (Lru.trace l)), (21, .int .i64 (Lfu.check u)), (22, .pointer (some ⟨B20, 0, none⟩)), (23, .pointer (some ⟨B21, 0, none⟩)), (24, .pointer (some ⟨B22, 0, none⟩)), (25, .bool ((Lfu.touch u key).2.1)), (26, .int .i64 ((Lfu.touch u key).2.2)), (27, .int .i64 0), (28, .int .i64 0), (29, .int .i64 (i : Int))]) (H := [own tUse Sag_0 aag_0 cag_0 (ag.list.set i (⟨(ag.list[i]).key, (max 1 (((ag.list[i]).count).tdiv 2))⟩ : DUse)), own tUse S85 a87 c88 (((Lfu.touch u key).1).list), box B22 [.int .i64 ag.room, .slice aag_0 ag.list.length cag_0] 24, box B21 [.int .i64 0, .slice none 0 0] 24, box B20 [.int .i64 (((Lfu.touch u key).1).room), .slice a87 (((Lfu.touch u key).1).list).length c88] 24, box B19 [.int .i64 ((Lfu.age u).room), .slice a16 ((Lfu.age u).list).length c17] 24, own tUse S14 a16 c17 ((Lfu.age u).list), box B13 [.int .i64 (((Lfu.run u l).1).room), .slice a10 (((Lfu.run u l).1).list).length c11] 24, own tUse S8 a10 c11 (((Lfu.run u l).1).list), box B7 [.int .i64 (((Lfu.access u key).1).room), .slice a4 (((Lfu.access u key).1).list).length c5] 24, own tUse S2 a4 c5 (((Lfu.access u key).1).list), box B1 [.int .i64 u.room, .slice au_0 u.list.length cu_0] 24, base w0]) (H' := [own tUse Sag_0 aag_0 cag_0 (ag.list.set i (⟨(ag.list[i]).key, (max 1 (((ag.list[i]).count).tdiv 2))⟩ : DUse)), own tUse S85 a87 c88 (((Lfu.touch u key).1).list), box B22 [.int .i64 ag.room, .slice aag_0 (ag.list.set i (⟨(ag.list[i]).key, (max 1 (((ag.list[i]).count).tdiv 2))⟩ : DUse)).length cag_0] 24, box B21 [.int .i64 0, .slice none 0 0] 24, box B20 [.int .i64 (((Lfu.touch u key).1).room), .slice a87 (((Lfu.touch u key).1).list).length c88] 24, box B19 [.int .i64 ((Lfu.age u).room), .slice a16 ((Lfu.age u).list).length c17] 24, own tUse S14 a16 c17 ((Lfu.age u).list), box B13 [.int .i64 (((Lfu.run u l).1).room), .slice a10 (((Lfu.run u l).1).list).length c11] 24, own tUse S8 a10 c11 (((Lfu.run u l).1).list), box B7 [.int .i64 (((Lfu.access u key).1).room), .slice a4 (((Lfu.access u key).1).list).length c5] 24, own tUse S2 a4 c5 (((Lfu.access u key).1).list), box B1 [.int .i64 u.room, .slice au_0 u.list.length cu_0] 24, base w0]) (Sub.cons rfl (Sub.cons rfl (Sub.cons rfl (Sub.cons rfl (Sub.cons rfl (Sub.cons rfl (Sub.cons rfl (Sub.cons rfl (Sub.cons rfl (Sub.cons rfl (Sub.cons rfl (Sub.cons rfl (Sub.cons rfl (Sub.cons rfl (Sub.cons rfl (Sub.cons rfl (Sub.cons rfl (Sub.cons rfl (Sub.cons rfl (Sub.cons rfl (Sub.cons rfl (Sub.cons rfl (Sub.cons rfl (Sub.cons rfl (Sub.nil _))))))))))))))))))))))))) (by simp only [List.length_set, List.length_reverse]) ?_
     refine q_block_normal (q_then ?_)
     refine c_region ?_
     refine o_mv (v := .int .i64 (i : Int)) rfl rfl ?_
     refine o_pure (p_addb (p := (i : Int)) (q := 1) rfl rfl (by omega)) rfl rfl rfl ?_
     refine o_pure (p_assign (v := .int .i64 ((i : Int) + 1)) rfl) rfl rfl rfl ?_
     refine o_nil ?_
     refine q_round hK123 (i + 1, (⟨ag.room, (ag.list.set i (⟨(ag.list[i]).key, (max 1 (((ag.list[i]).count).tdiv 2))⟩ : DUse))⟩ : DUses), aag_0, cag_0, Sag_0) ?_ ?_ ?_ ?_
     ·clear hK123
      exact ⟨hI.1, hI.2.next (by omega)⟩
     ·(try dsimp only); omega
     ·exact Sub.cons rfl (Sub.cons rfl (Sub.cons rfl (Sub.cons rfl (Sub.cons rfl (Sub.cons rfl (Sub.cons rfl (Sub.cons rfl (Sub.cons rfl (Sub.cons rfl (Sub.cons rfl (Sub.cons rfl (Sub.cons rfl (Sub.cons rfl (Sub.cons rfl (Sub.cons rfl (Sub.cons rfl (Sub.cons rfl (Sub.cons rfl (Sub.cons rfl (Sub.cons rfl (Sub.cons rfl (Sub.cons rfl (Sub.cons rfl (Sub.nil _))))))))))))))))))))))))
     ·exact fun _ hw => HeapIs.pick hw [0, 1, 2, 3, 4, 5, 6, 7, 8, 9, 10, 11, 12] (by decide) rfl
    ·simp only [decide_eq_false_iff_not, Int.not_lt] at hc124
     refine c_exit ?_
     refine q_then_exit (q_then_exit (q_block_exit (q_then ?_)))
     refine c_seq ?_
     refine c_region ?_
     refine o_pure (p_fieldAddr (B := B1) (j := 0) (j' := 1) rfl fo24_1 rfl) rfl rfl rfl ?_
     refine o_pure (p_load (i := 11) (v := .slice au_0 u.list.length cu_0) rfl rfl sh22 rfl) rfl rfl rfl ?_
     refine o_pure (p_len_slice (len := u.list.length) rfl rfl Try.underlying22) rfl rfl rfl ?_
     refine o_pure (p_eq (p := (u.list.length : Int)) (q := 0) rfl rfl) rfl rfl rfl ?_
     refine o_nil ?_
     refine q_then ?_
     refine c_cond (b := ((u.list.length : Int) == 0)) rfl (fun hc126 => ?_) (fun hc126 => ?_)
     ·simp only [beq_iff_eq] at hc126
      refine c_region ?_
      refine o_pure (p_assign (v := .int .i64 5) rfl) rfl rfl rfl ?_
      refine o_nil ?_
      refine q_then ?_
      refine c_seq ?_
      refine c_region ?_
      refine o_call0 (v := .bool true) rfl (lfuBegun_ok ) hf24 (fun _ _ => trivial) rfl ?_
      refine o_mv (v := .bool true) rfl rfl ?_
      refine o_unguard 120 rfl rfl ?_
      refine o_pure (p_load_agg (i := 11) (vs := [.int .i64 u.room, .slice au_0 u.list.length cu_0]) rfl rfl sh24 rfl rfl) rfl rfl rfl ?_
      refine o_unguard 120 rfl rfl ?_
      refine o_call0 (v := .int .i64 (Lfu.check u)) rfl (fcheck_ok u au_0 cu_0) hf25 (fun w hw => (rd_base (i := 12) rfl hu_0) w hw) rfl ?_
      refine o_unguard 120 rfl rfl ?_
      refine o_mv (v := .int .i64 (Lfu.check u)) rfl rfl ?_
      refine o_unguard 120 rfl rfl ?_
      refine o_pure (p_eq (p := (Lfu.check u)) (q := (Lfu.check u)) rfl rfl) rfl rfl rfl ?_
      refine o_pt (v := .bool ((Lfu.check u) == (Lfu.check u))) rfl rfl rfl ?_
      refine o_mv (v := .bool ((Lfu.check u) == (Lfu.check u))) rfl rfl ?_
      refine o_and (p := 130) 4 (decide (((Lfu.access u key).1) = ((Lfu.touch u key).1))) ?_ ?_ ?_
      ·intro hb127 hk
       simp only [beq_iff_eq] at hb127
       refine o_unguard 126 rfl rfl ?_
       refine o_pure (p_load_agg (i := 9) (vs := [.int .i64 (((Lfu.access u key).1).room), .slice a4 (((Lfu.access u key).1).list).length c5]) rfl rfl sh24 rfl rfl) rfl rfl rfl ?_
       refine o_unguard 126 rfl rfl ?_
       refine o_pure (p_load_agg (i := 4) (vs := [.int .i64 (((Lfu.touch u key).1).room), .slice a87 (((Lfu.touch u key).1).list).length c88]) rfl rfl sh24 rfl rfl) rfl rfl rfl ?_
       refine o_unguard 126 rfl rfl ?_
       refine o_call0 (v := .bool (decide (((Lfu.access u key).1) = ((Lfu.touch u key).1)))) rfl (sameUses_ok ((Lfu.access u key).1) a4 c5 ((Lfu.touch u key).1) a87 c88) hf26 (fun w hw => ⟨(rd_own (i := 10) rfl) w hw, (rd_own (i := 1) rfl) w hw⟩) rfl ?_
       refine o_pt (v := .bool (decide (((Lfu.access u key).1) = ((Lfu.touch u key).1)))) rfl rfl rfl ?_
       exact o_sub (Sub.cons rfl (Sub.skip rfl (Sub.skip rfl (Sub.skip rfl (Sub.skip rfl (Sub.skip rfl (Sub.refl _))))))) hk
      ·intro hb127 hk
       refine o_guard_no rfl 126 rfl rfl rfl rfl rfl ?_
       refine o_guard_no rfl 126 rfl rfl rfl rfl rfl ?_
       refine o_guard_no rfl 126 rfl rfl rfl rfl rfl ?_
       refine o_pf (v := .bool false) rfl rfl rfl ?_
       exact o_sub (Sub.cons rfl (Sub.skip rfl (Sub.skip rfl (Sub.skip rfl (Sub.skip rfl (Sub.skip rfl (Sub.refl _))))))) hk
      refine o_mv (v := .bool (((Lfu.check u) == (Lfu.check u)) && (decide (((Lfu.access u key).1) = ((Lfu.touch u key).1))))) rfl rfl ?_
      refine o_and (p := 135) 4 (((Lfu.access u key).2.1) == ((Lfu.touch u key).2.1)) ?_ ?_ ?_
      ·intro hb128 hk
       simp only [Bool.and_eq_true, beq_iff_eq, decide_eq_true_eq] at hb128
       refine o_unguard 131 rfl rfl ?_
       refine o_mv (v := .bool ((Lfu.access u key).2.1)) rfl rfl ?_
       refine o_unguard 131 rfl rfl ?_
       refine o_mv (v := .bool ((Lfu.touch u key).2.1)) rfl rfl ?_
       refine o_unguard 131 rfl rfl ?_
       refine o_pure (p_eqBool (b := ((Lfu.access u key).2.1)) (c := ((Lfu.touch u key).2.1)) rfl rfl Try.underlying4) rfl rfl rfl ?_
       refine o_pt (v := .bool (((Lfu.access u key).2.1) == ((Lfu.touch u key).2.1))) rfl rfl rfl ?_
       exact o_sub (Sub.cons rfl (Sub.skip rfl (Sub.skip rfl (Sub.skip rfl (Sub.skip rfl (Sub.skip rfl (Sub.refl _))))))) hk
      ·intro hb128 hk
       refine o_guard_no rfl 131 rfl rfl rfl rfl rfl ?_
       refine o_guard_no rfl 131 rfl rfl rfl rfl rfl ?_
       refine o_guard_no rfl 131 rfl rfl rfl rfl rfl ?_
       refine o_pf (v := .bool false) rfl rfl rfl ?_
       exact o_sub (Sub.cons rfl (Sub.skip rfl (Sub.skip rfl (Sub.skip rfl (Sub.skip rfl (Sub.skip rfl (Sub.refl _))))))) hk
      refine o_mv (v := .bool ((((Lfu.check u) == (Lfu.check u)) && (decide (((Lfu.access u key).1) = ((Lfu.touch u key).1)))) && (((Lfu.access u key).2.1) == ((Lfu.touch u key).2.1)))) rfl rfl ?_
      refine o_and (p := 140) 4 (((Lfu.access u key).2.2) == ((Lfu.touch u key).2.2)) ?_ ?_ ?_
      ·intro hb129 hk
       simp only [Bool.and_eq_true, beq_iff_eq, decide_eq_true_eq] at hb129
       refine o_unguard 136 rfl rfl ?_
       refine o_mv (v := .int .i64 ((Lfu.access u key).2.2)) rfl rfl ?_
       refine o_unguard 136 rfl rfl ?_
       refine o_mv (v := .int .i64 ((Lfu.touch u key).2.2)) rfl rfl ?_
       refine o_unguard 136 rfl rfl ?_
       refine o_pure (p_eq (p := ((Lfu.access u key).2.2)) (q := ((Lfu.touch u key).2.2)) rfl rfl) rfl rfl rfl ?_
       refine o_pt (v := .bool (((Lfu.access u key).2.2) == ((Lfu.touch u key).2.2))) rfl rfl rfl ?_
       exact o_sub (Sub.cons rfl (Sub.skip rfl (Sub.skip rfl (Sub.skip rfl (Sub.skip rfl (Sub.skip rfl (Sub.refl _))))))) hk
      ·intro hb129 hk
       refine o_guard_no rfl 136 rfl rfl rfl rfl rfl ?_
       refine o_guard_no rfl 136 rfl rfl rfl rfl rfl ?_
       refine o_guard_no rfl 136 rfl rfl rfl rfl rfl ?_
       refine o_pf (v := .bool false) rfl rfl rfl ?_
       exact o_sub (Sub.cons rfl (Sub.skip rfl (Sub.skip rfl (Sub.skip rfl (Sub.skip rfl (Sub.skip rfl (Sub.refl _))))))) hk
      refine o_mv (v := .bool (((((Lfu.check u) == (Lfu.check u)) && (decide (((Lfu.access u key).1) = ((Lfu.touch u key).1)))) && (((Lfu.access u key).2.1) == ((Lfu.touch u key).2.1))) && (((Lfu.access u key).2.2) == ((Lfu.touch u key).2.2)))) rfl rfl ?_
      refine o_and (p := 145) 4 ((Lfu.accessErr u key) == (Lfu.check u)) ?_ ?_ ?_
      ·intro hb130 hk
       simp only [Bool.and_eq_true, beq_iff_eq, decide_eq_true_eq] at hb130
       refine o_unguard 141 rfl rfl ?_
       refine o_mv (v := .int .i64 (Lfu.accessErr u key)) rfl rfl ?_
       refine o_unguard 141 rfl rfl ?_
       refine o_mv (v := .int .i64 (Lfu.check u)) rfl rfl ?_
       refine o_unguard 141 rfl rfl ?_
       refine o_pure (p_eq (p := (Lfu.accessErr u key)) (q := (Lfu.check u)) rfl rfl) rfl rfl rfl ?_
       refine o_pt (v := .bool ((Lfu.accessErr u key) == (Lfu.check u))) rfl rfl rfl ?_
       exact o_sub (Sub.cons rfl (Sub.skip rfl (Sub.skip rfl (Sub.skip rfl (Sub.skip rfl (Sub.skip rfl (Sub.refl _))))))) hk
      ·intro hb130 hk
       refine o_guard_no rfl 141 rfl rfl rfl rfl rfl ?_
       refine o_guard_no rfl 141 rfl rfl rfl rfl rfl ?_
       refine o_guard_no rfl 141 rfl rfl rfl rfl rfl ?_
       refine o_pf (v := .bool false) rfl rfl rfl ?_
       exact o_sub (Sub.cons rfl (Sub.skip rfl (Sub.skip rfl (Sub.skip rfl (Sub.skip rfl (Sub.skip rfl (Sub.refl _))))))) hk
      refine o_mv (v := .bool ((((((Lfu.check u) == (Lfu.check u)) && (decide (((Lfu.access u key).1) = ((Lfu.touch u key).1)))) && (((Lfu.access u key).2.1) == ((Lfu.touch u key).2.1))) && (((Lfu.access u key).2.2) == ((Lfu.touch u key).2.2))) && ((Lfu.accessErr u key) == (Lfu.check u)))) rfl rfl ?_
      refine o_and (p := 150) 4 (decide (((Lfu.run u l).1) = (⟨0, []⟩ : DUses))) ?_ ?_ ?_
      ·intro hb131 hk
       simp only [Bool.and_eq_true, beq_iff_eq, decide_eq_true_eq] at hb131
       refine o_unguard 146 rfl rfl ?_
       refine o_pure (p_load_agg (i := 7) (vs := [.int .i64 (((Lfu.run u l).1).room), .slice a10 (((Lfu.run u l).1).list).length c11]) rfl rfl sh24 rfl rfl) rfl rfl rfl ?_
       refine o_unguard 146 rfl rfl ?_
       refine o_pure (p_load_agg (i := 3) (vs := [.int .i64 0, .slice none 0 0]) rfl rfl sh24 rfl rfl) rfl rfl rfl ?_
       refine o_unguard 146 rfl rfl ?_
       refine o_call0 (v := .bool (decide (((Lfu.run u l).1) = (⟨0, []⟩ : DUses)))) rfl (sameUses_ok ((Lfu.run u l).1) a10 c11 (⟨0, []⟩ : DUses) none 0) hf26 (fun w hw => ⟨(rd_own (i := 8) rfl) w hw, rd_nil w hw⟩) rfl ?_
       refine o_pt (v := .bool (decide (((Lfu.run u l).1) = (⟨0, []⟩ : DUses)))) rfl rfl rfl ?_
       exact o_sub (Sub.cons rfl (Sub.skip rfl (Sub.skip rfl (Sub.skip rfl (Sub.skip rfl (Sub.skip rfl (Sub.refl _))))))) hk
      ·intro hb131 hk
       refine o_guard_no rfl 146 rfl rfl rfl rfl rfl ?_
       refine o_guard_no rfl 146 rfl rfl rfl rfl rfl ?_
       refine o_guard_no rfl 146 rfl rfl rfl rfl rfl ?_
       refine o_pf (v := .bool false) rfl rfl rfl ?_
       exact o_sub (Sub.cons rfl (Sub.skip rfl (Sub.skip rfl (Sub.skip rfl (Sub.skip rfl (Sub.skip rfl (Sub.refl _))))))) hk
      refine o_mv (v := .bool (((((((Lfu.check u) == (Lfu.check u)) && (decide (((Lfu.access u key).1) = ((Lfu.touch u key).1)))) && (((Lfu.access u key).2.1) == ((Lfu.touch u key).2.1))) && (((Lfu.access u key).2.2) == ((Lfu.touch u key).2.2))) && ((Lfu.accessErr u key) == (Lfu.check u))) && (decide (((Lfu.run u l).1) = (⟨0, []⟩ : DUses))))) rfl rfl ?_
      refine o_and (p := 155) 4 (((Lfu.run u l).2) == 0) ?_ ?_ ?_
      ·intro hb132 hk
       simp only [Bool.and_eq_true, beq_iff_eq, decide_eq_true_eq] at hb132
       refine o_unguard 151 rfl rfl ?_
       refine o_mv (v := .int .i64 ((Lfu.run u l).2)) rfl rfl ?_
       refine o_unguard 151 rfl rfl ?_
       refine o_mv (v := .int .i64 0) rfl rfl ?_
       refine o_unguard 151 rfl rfl ?_
       refine o_pure (p_eq (p := ((Lfu.run u l).2)) (q := 0) rfl rfl) rfl rfl rfl ?_
       refine o_pt (v := .bool (((Lfu.run u l).2) == 0)) rfl rfl rfl ?_
       exact o_sub (Sub.cons rfl (Sub.skip rfl (Sub.skip rfl (Sub.skip rfl (Sub.skip rfl (Sub.skip rfl (Sub.refl _))))))) hk
      ·intro hb132 hk
       refine o_guard_no rfl 151 rfl rfl rfl rfl rfl ?_
       refine o_guard_no rfl 151 rfl rfl rfl rfl rfl ?_
       refine o_guard_no rfl 151 rfl rfl rfl rfl rfl ?_
       refine o_pf (v := .bool false) rfl rfl rfl ?_
       exact o_sub (Sub.cons rfl (Sub.skip rfl (Sub.skip rfl (Sub.skip rfl (Sub.skip rfl (Sub.skip rfl (Sub.refl _))))))) hk
      refine o_mv (v := .bool ((((((((Lfu.check u) == (Lfu.check u)) && (decide (((Lfu.access u key).1) = ((Lfu.touch u key).1)))) && (((Lfu.access u key).2.1) == ((Lfu.touch u key).2.1))) && (((Lfu.access u key).2.2) == ((Lfu.touch u key).2.2))) && ((Lfu.accessErr u key) == (Lfu.check u))) && (decide (((Lfu.run u l).1) = (⟨0, []⟩ : DUses)))) && (((Lfu.run u l).2) == 0))) rfl rfl ?_
      refine o_and (p := 160) 4 ((Lfu.runErr u l) == (Lru.trace l)) ?_ ?_ ?_
      ·intro hb133 hk
       simp only [Bool.and_eq_true, beq_iff_eq, decide_eq_true_eq] at hb133
       refine o_unguard 156 rfl rfl ?_
       refine o_mv (v := .int .i64 (Lfu.runErr u l)) rfl rfl ?_
       refine o_unguard 156 rfl rfl ?_
       refine o_mv (v := .int .i64 (Lru.trace l)) rfl rfl ?_
       refine o_unguard 156 rfl rfl ?_
       refine o_pure (p_eq (p := (Lfu.runErr u l)) (q := (Lru.trace l)) rfl rfl) rfl rfl rfl ?_
       refine o_pt (v := .bool ((Lfu.runErr u l) == (Lru.trace l))) rfl rfl rfl ?_
       exact o_sub (Sub.cons rfl (Sub.skip rfl (Sub.skip rfl (Sub.skip rfl (Sub.skip rfl (Sub.skip rfl (Sub.refl _))))))) hk
      ·intro hb133 hk
       refine o_guard_no rfl 156 rfl rfl rfl rfl rfl ?_
       refine o_guard_no rfl 156 rfl rfl rfl rfl rfl ?_
       refine o_guard_no rfl 156 rfl rfl rfl rfl rfl ?_
       refine o_pf (v := .bool false) rfl rfl rfl ?_
       exact o_sub (Sub.cons rfl (Sub.skip rfl (Sub.skip rfl (Sub.skip rfl (Sub.skip rfl (Sub.skip rfl (Sub.refl _))))))) hk
      refine o_mv (v := .bool (((((((((Lfu.check u) == (Lfu.check u)) && (decide (((Lfu.access u key).1) = ((Lfu.touch u key).1)))) && (((Lfu.access u key).2.1) == ((Lfu.touch u key).2.1))) && (((Lfu.access u key).2.2) == ((Lfu.touch u key).2.2))) && ((Lfu.accessErr u key) == (Lfu.check u))) && (decide (((Lfu.run u l).1) = (⟨0, []⟩ : DUses)))) && (((Lfu.run u l).2) == 0)) && ((Lfu.runErr u l) == (Lru.trace l)))) rfl rfl ?_
      refine o_and (p := 165) 4 (decide ((Lfu.age u) = ag)) ?_ ?_ ?_
      ·intro hb134 hk
       simp only [Bool.and_eq_true, beq_iff_eq, decide_eq_true_eq] at hb134
       refine o_unguard 161 rfl rfl ?_
       refine o_pure (p_load_agg (i := 5) (vs := [.int .i64 ((Lfu.age u).room), .slice a16 ((Lfu.age u).list).length c17]) rfl rfl sh24 rfl rfl) rfl rfl rfl ?_
       refine o_unguard 161 rfl rfl ?_
       refine o_pure (p_load_agg (i := 2) (vs := [.int .i64 ag.room, .slice aag_0 ag.list.length cag_0]) rfl rfl sh24 rfl rfl) rfl rfl rfl ?_
       refine o_unguard 161 rfl rfl ?_
       refine o_call0 (v := .bool (decide ((Lfu.age u) = ag))) rfl (sameUses_ok (Lfu.age u) a16 c17 ag aag_0 cag_0) hf26 (fun w hw => ⟨(rd_own (i := 6) rfl) w hw, (rd_own (i := 0) rfl) w hw⟩) rfl ?_
       refine o_pt (v := .bool (decide ((Lfu.age u) = ag))) rfl rfl rfl ?_
       exact o_sub (Sub.cons rfl (Sub.skip rfl (Sub.skip rfl (Sub.skip rfl (Sub.skip rfl (Sub.skip rfl (Sub.refl _))))))) hk
      ·intro hb134 hk
       refine o_guard_no rfl 161 rfl rfl rfl rfl rfl ?_
       refine o_guard_no rfl 161 rfl rfl rfl rfl rfl ?_
       refine o_guard_no rfl 161 rfl rfl rfl rfl rfl ?_
       refine o_pf (v := .bool false) rfl rfl rfl ?_
       exact o_sub (Sub.cons rfl (Sub.skip rfl (Sub.skip rfl (Sub.skip rfl (Sub.skip rfl (Sub.skip rfl (Sub.refl _))))))) hk
      refine o_mv (v := .bool ((((((((((Lfu.check u) == (Lfu.check u)) && (decide (((Lfu.access u key).1) = ((Lfu.touch u key).1)))) && (((Lfu.access u key).2.1) == ((Lfu.touch u key).2.1))) && (((Lfu.access u key).2.2) == ((Lfu.touch u key).2.2))) && ((Lfu.accessErr u key) == (Lfu.check u))) && (decide (((Lfu.run u l).1) = (⟨0, []⟩ : DUses)))) && (((Lfu.run u l).2) == 0)) && ((Lfu.runErr u l) == (Lru.trace l))) && (decide ((Lfu.age u) = ag)))) rfl rfl ?_
      refine o_and (p := 170) 4 ((Lfu.check u) == (Lfu.check u)) ?_ ?_ ?_
      ·intro hb135 hk
       simp only [Bool.and_eq_true, beq_iff_eq, decide_eq_true_eq] at hb135
       refine o_unguard 166 rfl rfl ?_
       refine o_mv (v := .int .i64 (Lfu.check u)) rfl rfl ?_
       refine o_unguard 166 rfl rfl ?_
       refine o_mv (v := .int .i64 (Lfu.check u)) rfl rfl ?_
       refine o_unguard 166 rfl rfl ?_
       refine o_pure (p_eq (p := (Lfu.check u)) (q := (Lfu.check u)) rfl rfl) rfl rfl rfl ?_
       refine o_pt (v := .bool ((Lfu.check u) == (Lfu.check u))) rfl rfl rfl ?_
       exact o_sub (Sub.cons rfl (Sub.skip rfl (Sub.skip rfl (Sub.skip rfl (Sub.skip rfl (Sub.skip rfl (Sub.refl _))))))) hk
      ·intro hb135 hk
       refine o_guard_no rfl 166 rfl rfl rfl rfl rfl ?_
       refine o_guard_no rfl 166 rfl rfl rfl rfl rfl ?_
       refine o_guard_no rfl 166 rfl rfl rfl rfl rfl ?_
       refine o_pf (v := .bool false) rfl rfl rfl ?_
       exact o_sub (Sub.cons rfl (Sub.skip rfl (Sub.skip rfl (Sub.skip rfl (Sub.skip rfl (Sub.skip rfl (Sub.refl _))))))) hk
      refine o_mv (v := .bool (((((((((((Lfu.check u) == (Lfu.check u)) && (decide (((Lfu.access u key).1) = ((Lfu.touch u key).1)))) && (((Lfu.access u key).2.1) == ((Lfu.touch u key).2.1))) && (((Lfu.access u key).2.2) == ((Lfu.touch u key).2.2))) && ((Lfu.accessErr u key) == (Lfu.check u))) && (decide (((Lfu.run u l).1) = (⟨0, []⟩ : DUses)))) && (((Lfu.run u l).2) == 0)) && ((Lfu.runErr u l) == (Lru.trace l))) && (decide ((Lfu.age u) = ag))) && ((Lfu.check u) == (Lfu.check u)))) rfl rfl ?_
      refine o_and (p := 175) 4 ((Lfu.victim u) == 0) ?_ ?_ ?_
      ·intro hb136 hk
       simp only [Bool.and_eq_true, beq_iff_eq, decide_eq_true_eq] at hb136
       refine o_unguard 171 rfl rfl ?_
       refine o_mv (v := .int .i64 (Lfu.victim u)) rfl rfl ?_
       refine o_unguard 171 rfl rfl ?_
       refine o_mv (v := .int .i64 0) rfl rfl ?_
       refine o_unguard 171 rfl rfl ?_
       refine o_pure (p_eq (p := (Lfu.victim u)) (q := 0) rfl rfl) rfl rfl rfl ?_
       refine o_pt (v := .bool ((Lfu.victim u) == 0)) rfl rfl rfl ?_
       exact o_sub (Sub.cons rfl (Sub.skip rfl (Sub.skip rfl (Sub.skip rfl (Sub.skip rfl (Sub.skip rfl (Sub.refl _))))))) hk
      ·intro hb136 hk
       refine o_guard_no rfl 171 rfl rfl rfl rfl rfl ?_
       refine o_guard_no rfl 171 rfl rfl rfl rfl rfl ?_
       refine o_guard_no rfl 171 rfl rfl rfl rfl rfl ?_
       refine o_pf (v := .bool false) rfl rfl rfl ?_
       exact o_sub (Sub.cons rfl (Sub.skip rfl (Sub.skip rfl (Sub.skip rfl (Sub.skip rfl (Sub.skip rfl (Sub.refl _))))))) hk
      refine o_mv (v := .bool ((((((((((((Lfu.check u) == (Lfu.check u)) && (decide (((Lfu.access u key).1) = ((Lfu.touch u key).1)))) && (((Lfu.access u key).2.1) == ((Lfu.touch u key).2.1))) && (((Lfu.access u key).2.2) == ((Lfu.touch u key).2.2))) && ((Lfu.accessErr u key) == (Lfu.check u))) && (decide (((Lfu.run u l).1) = (⟨0, []⟩ : DUses)))) && (((Lfu.run u l).2) == 0)) && ((Lfu.runErr u l) == (Lru.trace l))) && (decide ((Lfu.age u) = ag))) && ((Lfu.check u) == (Lfu.check u))) && ((Lfu.victim u) == 0))) rfl rfl ?_
      refine o_and (p := 180) 4 ((Lfu.victimErr u) == 5) ?_ ?_ ?_
      ·intro hb137 hk
       simp only [Bool.and_eq_true, beq_iff_eq, decide_eq_true_eq] at hb137
       refine o_unguard 176 rfl rfl ?_
       refine o_mv (v := .int .i64 (Lfu.victimErr u)) rfl rfl ?_
       refine o_unguard 176 rfl rfl ?_
       refine o_mv (v := .int .i64 5) rfl rfl ?_
       refine o_unguard 176 rfl rfl ?_
       refine o_pure (p_eq (p := (Lfu.victimErr u)) (q := 5) rfl rfl) rfl rfl rfl ?_
       refine o_pt (v := .bool ((Lfu.victimErr u) == 5)) rfl rfl rfl ?_
       exact o_sub (Sub.cons rfl (Sub.skip rfl (Sub.skip rfl (Sub.skip rfl (Sub.skip rfl (Sub.skip rfl (Sub.refl _))))))) hk
      ·intro hb137 hk
       refine o_guard_no rfl 176 rfl rfl rfl rfl rfl ?_
       refine o_guard_no rfl 176 rfl rfl rfl rfl rfl ?_
       refine o_guard_no rfl 176 rfl rfl rfl rfl rfl ?_
       refine o_pf (v := .bool false) rfl rfl rfl ?_
       exact o_sub (Sub.cons rfl (Sub.skip rfl (Sub.skip rfl (Sub.skip rfl (Sub.skip rfl (Sub.skip rfl (Sub.refl _))))))) hk
      refine o_pure (p_assign (v := .bool (((((((((((((Lfu.check u) == (Lfu.check u)) && (decide (((Lfu.access u key).1) = ((Lfu.touch u key).1)))) && (((Lfu.access u key).2.1) == ((Lfu.touch u key).2.1))) && (((Lfu.access u key).2.2) == ((Lfu.touch u key).2.2))) && ((Lfu.accessErr u key) == (Lfu.check u))) && (decide (((Lfu.run u l).1) = (⟨0, []⟩ : DUses)))) && (((Lfu.run u l).2) == 0)) && ((Lfu.runErr u l) == (Lru.trace l))) && (decide ((Lfu.age u) = ag))) && ((Lfu.check u) == (Lfu.check u))) && ((Lfu.victim u) == 0)) && ((Lfu.victimErr u) == 5))) rfl) rfl rfl rfl ?_
      refine o_nil ?_
      refine q_then ?_
      refine c_ret ?_
      have hr0 : ((((((((((((((Lfu.check u) == (Lfu.check u)) && (decide (((Lfu.access u key).1) = ((Lfu.touch u key).1)))) && (((Lfu.access u key).2.1) == ((Lfu.touch u key).2.1))) && (((Lfu.access u key).2.2) == ((Lfu.touch u key).2.2))) && ((Lfu.accessErr u key) == (Lfu.check u))) && (decide (((Lfu.run u l).1) = (⟨0, []⟩ : DUses)))) && (((Lfu.run u l).2) == 0)) && ((Lfu.runErr u l) == (Lru.trace l))) && (decide ((Lfu.age u) = ag))) && ((Lfu.check u) == (Lfu.check u))) && ((Lfu.victim u) == 0)) && ((Lfu.victimErr u) == 5)) : Bool) = true := by
       rcases Lfu.acc_num u key with ⟨a0, a1, a2⟩ | ⟨a0, a3, a1, a2⟩ | ⟨a0, a3, a1, a2⟩ <;> rcases Lfu.run_cases u l with ⟨b0, b1, b2⟩ | ⟨b0, b3, b1, b2⟩ | ⟨b0, b3, b1, b2⟩ <;> rcases Lfu.vic_cases u with ⟨s0, s1, s2⟩ | ⟨s0, s3, s1, s2⟩ | ⟨s0, s3, s1, s2⟩ <;> first | (exfalso; omega) | (rw [a1, a2, b1, b2, s1, s2]; first | (simp [Lfu.zero, Lfu.age, a0]; done) | (simp [Lfu.zero, Lfu.age, a0, b3]; done) | (have hag := Lfu.age_of hI.1 (hI.2.done (by omega)); rw [hag]; simp [Lfu.zero, Lfu.age, a0, b3]; done))
      refine q_end0 (v := .bool (((((((((((((Lfu.check u) == (Lfu.check u)) && (decide (((Lfu.access u key).1) = ((Lfu.touch u key).1)))) && (((Lfu.access u key).2.1) == ((Lfu.touch u key).2.1))) && (((Lfu.access u key).2.2) == ((Lfu.touch u key).2.2))) && ((Lfu.accessErr u key) == (Lfu.check u))) && (decide (((Lfu.run u l).1) = (⟨0, []⟩ : DUses)))) && (((Lfu.run u l).2) == 0)) && ((Lfu.runErr u l) == (Lru.trace l))) && (decide ((Lfu.age u) = ag))) && ((Lfu.check u) == (Lfu.check u))) && ((Lfu.victim u) == 0)) && ((Lfu.victimErr u) == 5))) (rt1 rfl (r_tmp rfl)) (i := 12) rfl ?_
      exact (by have hcc := congrArg (fun (y0 : Bool) => (.bool y0 : Value)) hr0; exact hcc)
     ·simp only [beq_eq_false_iff_ne, ne_eq] at hc126
      refine c_region ?_
      refine o_pure (p_fieldAddr (B := B1) (j := 0) (j' := 1) rfl fo24_1 rfl) rfl rfl rfl ?_
      refine o_pure (p_load (i := 11) (v := .slice au_0 u.list.length cu_0) rfl rfl sh22 rfl) rfl rfl rfl ?_
      refine o_call0 (v := .int .i64 ((u.list.getD (Lfu.least u.list) default).key)) rfl (rfleast_ok u.list au_0 cu_0 (by omega)) hf23 (fun w hw => (rd_base (i := 12) rfl hu_0) w hw) rfl ?_
      refine o_pure (p_assign (v := .int .i64 ((u.list.getD (Lfu.least u.list) default).key)) rfl) rfl rfl rfl ?_
      refine o_nil ?_
      refine q_then ?_
      refine c_seq ?_
      refine c_region ?_
      refine o_call0 (v := .bool true) rfl (lfuBegun_ok ) hf24 (fun _ _ => trivial) rfl ?_
      refine o_mv (v := .bool true) rfl rfl ?_
      refine o_unguard 120 rfl rfl ?_
      refine o_pure (p_load_agg (i := 11) (vs := [.int .i64 u.room, .slice au_0 u.list.length cu_0]) rfl rfl sh24 rfl rfl) rfl rfl rfl ?_
      refine o_unguard 120 rfl rfl ?_
      refine o_call0 (v := .int .i64 (Lfu.check u)) rfl (fcheck_ok u au_0 cu_0) hf25 (fun w hw => (rd_base (i := 12) rfl hu_0) w hw) rfl ?_
      refine o_unguard 120 rfl rfl ?_
      refine o_mv (v := .int .i64 (Lfu.check u)) rfl rfl ?_
      refine o_unguard 120 rfl rfl ?_
      refine o_pure (p_eq (p := (Lfu.check u)) (q := (Lfu.check u)) rfl rfl) rfl rfl rfl ?_
      refine o_pt (v := .bool ((Lfu.check u) == (Lfu.check u))) rfl rfl rfl ?_
      refine o_mv (v := .bool ((Lfu.check u) == (Lfu.check u))) rfl rfl ?_
      refine o_and (p := 130) 4 (decide (((Lfu.access u key).1) = ((Lfu.touch u key).1))) ?_ ?_ ?_
      ·intro hb138 hk
       simp only [beq_iff_eq] at hb138
       refine o_unguard 126 rfl rfl ?_
       refine o_pure (p_load_agg (i := 9) (vs := [.int .i64 (((Lfu.access u key).1).room), .slice a4 (((Lfu.access u key).1).list).length c5]) rfl rfl sh24 rfl rfl) rfl rfl rfl ?_
       refine o_unguard 126 rfl rfl ?_
       refine o_pure (p_load_agg (i := 4) (vs := [.int .i64 (((Lfu.touch u key).1).room), .slice a87 (((Lfu.touch u key).1).list).length c88]) rfl rfl sh24 rfl rfl) rfl rfl rfl ?_
       refine o_unguard 126 rfl rfl ?_
       refine o_call0 (v := .bool (decide (((Lfu.access u key).1) = ((Lfu.touch u key).1)))) rfl (sameUses_ok ((Lfu.access u key).1) a4 c5 ((Lfu.touch u key).1) a87 c88) hf26 (fun w hw => ⟨(rd_own (i := 10) rfl) w hw, (rd_own (i := 1) rfl) w hw⟩) rfl ?_
       refine o_pt (v := .bool (decide (((Lfu.access u key).1) = ((Lfu.touch u key).1)))) rfl rfl rfl ?_
       exact o_sub (Sub.cons rfl (Sub.skip rfl (Sub.skip rfl (Sub.skip rfl (Sub.skip rfl (Sub.skip rfl (Sub.refl _))))))) hk
      ·intro hb138 hk
       refine o_guard_no rfl 126 rfl rfl rfl rfl rfl ?_
       refine o_guard_no rfl 126 rfl rfl rfl rfl rfl ?_
       refine o_guard_no rfl 126 rfl rfl rfl rfl rfl ?_
       refine o_pf (v := .bool false) rfl rfl rfl ?_
       exact o_sub (Sub.cons rfl (Sub.skip rfl (Sub.skip rfl (Sub.skip rfl (Sub.skip rfl (Sub.skip rfl (Sub.refl _))))))) hk
      refine o_mv (v := .bool (((Lfu.check u) == (Lfu.check u)) && (decide (((Lfu.access u key).1) = ((Lfu.touch u key).1))))) rfl rfl ?_
      refine o_and (p := 135) 4 (((Lfu.access u key).2.1) == ((Lfu.touch u key).2.1)) ?_ ?_ ?_
      ·intro hb139 hk
       simp only [Bool.and_eq_true, beq_iff_eq, decide_eq_true_eq] at hb139
       refine o_unguard 131 rfl rfl ?_
       refine o_mv (v := .bool ((Lfu.access u key).2.1)) rfl rfl ?_
       refine o_unguard 131 rfl rfl ?_
       refine o_mv (v := .bool ((Lfu.touch u key).2.1)) rfl rfl ?_
       refine o_unguard 131 rfl rfl ?_
       refine o_pure (p_eqBool (b := ((Lfu.access u key).2.1)) (c := ((Lfu.touch u key).2.1)) rfl rfl Try.underlying4) rfl rfl rfl ?_
       refine o_pt (v := .bool (((Lfu.access u key).2.1) == ((Lfu.touch u key).2.1))) rfl rfl rfl ?_
       exact o_sub (Sub.cons rfl (Sub.skip rfl (Sub.skip rfl (Sub.skip rfl (Sub.skip rfl (Sub.skip rfl (Sub.refl _))))))) hk
      ·intro hb139 hk
       refine o_guard_no rfl 131 rfl rfl rfl rfl rfl ?_
       refine o_guard_no rfl 131 rfl rfl rfl rfl rfl ?_
       refine o_guard_no rfl 131 rfl rfl rfl rfl rfl ?_
       refine o_pf (v := .bool false) rfl rfl rfl ?_
       exact o_sub (Sub.cons rfl (Sub.skip rfl (Sub.skip rfl (Sub.skip rfl (Sub.skip rfl (Sub.skip rfl (Sub.refl _))))))) hk
      refine o_mv (v := .bool ((((Lfu.check u) == (Lfu.check u)) && (decide (((Lfu.access u key).1) = ((Lfu.touch u key).1)))) && (((Lfu.access u key).2.1) == ((Lfu.touch u key).2.1)))) rfl rfl ?_
      refine o_and (p := 140) 4 (((Lfu.access u key).2.2) == ((Lfu.touch u key).2.2)) ?_ ?_ ?_
      ·intro hb140 hk
       simp only [Bool.and_eq_true, beq_iff_eq, decide_eq_true_eq] at hb140
       refine o_unguard 136 rfl rfl ?_
       refine o_mv (v := .int .i64 ((Lfu.access u key).2.2)) rfl rfl ?_
       refine o_unguard 136 rfl rfl ?_
       refine o_mv (v := .int .i64 ((Lfu.touch u key).2.2)) rfl rfl ?_
       refine o_unguard 136 rfl rfl ?_
       refine o_pure (p_eq (p := ((Lfu.access u key).2.2)) (q := ((Lfu.touch u key).2.2)) rfl rfl) rfl rfl rfl ?_
       refine o_pt (v := .bool (((Lfu.access u key).2.2) == ((Lfu.touch u key).2.2))) rfl rfl rfl ?_
       exact o_sub (Sub.cons rfl (Sub.skip rfl (Sub.skip rfl (Sub.skip rfl (Sub.skip rfl (Sub.skip rfl (Sub.refl _))))))) hk
      ·intro hb140 hk
       refine o_guard_no rfl 136 rfl rfl rfl rfl rfl ?_
       refine o_guard_no rfl 136 rfl rfl rfl rfl rfl ?_
       refine o_guard_no rfl 136 rfl rfl rfl rfl rfl ?_
       refine o_pf (v := .bool false) rfl rfl rfl ?_
       exact o_sub (Sub.cons rfl (Sub.skip rfl (Sub.skip rfl (Sub.skip rfl (Sub.skip rfl (Sub.skip rfl (Sub.refl _))))))) hk
      refine o_mv (v := .bool (((((Lfu.check u) == (Lfu.check u)) && (decide (((Lfu.access u key).1) = ((Lfu.touch u key).1)))) && (((Lfu.access u key).2.1) == ((Lfu.touch u key).2.1))) && (((Lfu.access u key).2.2) == ((Lfu.touch u key).2.2)))) rfl rfl ?_
      refine o_and (p := 145) 4 ((Lfu.accessErr u key) == (Lfu.check u)) ?_ ?_ ?_
      ·intro hb141 hk
       simp only [Bool.and_eq_true, beq_iff_eq, decide_eq_true_eq] at hb141
       refine o_unguard 141 rfl rfl ?_
       refine o_mv (v := .int .i64 (Lfu.accessErr u key)) rfl rfl ?_
       refine o_unguard 141 rfl rfl ?_
       refine o_mv (v := .int .i64 (Lfu.check u)) rfl rfl ?_
       refine o_unguard 141 rfl rfl ?_
       refine o_pure (p_eq (p := (Lfu.accessErr u key)) (q := (Lfu.check u)) rfl rfl) rfl rfl rfl ?_
       refine o_pt (v := .bool ((Lfu.accessErr u key) == (Lfu.check u))) rfl rfl rfl ?_
       exact o_sub (Sub.cons rfl (Sub.skip rfl (Sub.skip rfl (Sub.skip rfl (Sub.skip rfl (Sub.skip rfl (Sub.refl _))))))) hk
      ·intro hb141 hk
       refine o_guard_no rfl 141 rfl rfl rfl rfl rfl ?_
       refine o_guard_no rfl 141 rfl rfl rfl rfl rfl ?_
       refine o_guard_no rfl 141 rfl rfl rfl rfl rfl ?_
       refine o_pf (v := .bool false) rfl rfl rfl ?_
       exact o_sub (Sub.cons rfl (Sub.skip rfl (Sub.skip rfl (Sub.skip rfl (Sub.skip rfl (Sub.skip rfl (Sub.refl _))))))) hk
      refine o_mv (v := .bool ((((((Lfu.check u) == (Lfu.check u)) && (decide (((Lfu.access u key).1) = ((Lfu.touch u key).1)))) && (((Lfu.access u key).2.1) == ((Lfu.touch u key).2.1))) && (((Lfu.access u key).2.2) == ((Lfu.touch u key).2.2))) && ((Lfu.accessErr u key) == (Lfu.check u)))) rfl rfl ?_
      refine o_and (p := 150) 4 (decide (((Lfu.run u l).1) = (⟨0, []⟩ : DUses))) ?_ ?_ ?_
      ·intro hb142 hk
       simp only [Bool.and_eq_true, beq_iff_eq, decide_eq_true_eq] at hb142
       refine o_unguard 146 rfl rfl ?_
       refine o_pure (p_load_agg (i := 7) (vs := [.int .i64 (((Lfu.run u l).1).room), .slice a10 (((Lfu.run u l).1).list).length c11]) rfl rfl sh24 rfl rfl) rfl rfl rfl ?_
       refine o_unguard 146 rfl rfl ?_
       refine o_pure (p_load_agg (i := 3) (vs := [.int .i64 0, .slice none 0 0]) rfl rfl sh24 rfl rfl) rfl rfl rfl ?_
       refine o_unguard 146 rfl rfl ?_
       refine o_call0 (v := .bool (decide (((Lfu.run u l).1) = (⟨0, []⟩ : DUses)))) rfl (sameUses_ok ((Lfu.run u l).1) a10 c11 (⟨0, []⟩ : DUses) none 0) hf26 (fun w hw => ⟨(rd_own (i := 8) rfl) w hw, rd_nil w hw⟩) rfl ?_
       refine o_pt (v := .bool (decide (((Lfu.run u l).1) = (⟨0, []⟩ : DUses)))) rfl rfl rfl ?_
       exact o_sub (Sub.cons rfl (Sub.skip rfl (Sub.skip rfl (Sub.skip rfl (Sub.skip rfl (Sub.skip rfl (Sub.refl _))))))) hk
      ·intro hb142 hk
       refine o_guard_no rfl 146 rfl rfl rfl rfl rfl ?_
       refine o_guard_no rfl 146 rfl rfl rfl rfl rfl ?_
       refine o_guard_no rfl 146 rfl rfl rfl rfl rfl ?_
       refine o_pf (v := .bool false) rfl rfl rfl ?_
       exact o_sub (Sub.cons rfl (Sub.skip rfl (Sub.skip rfl (Sub.skip rfl (Sub.skip rfl (Sub.skip rfl (Sub.refl _))))))) hk
      refine o_mv (v := .bool (((((((Lfu.check u) == (Lfu.check u)) && (decide (((Lfu.access u key).1) = ((Lfu.touch u key).1)))) && (((Lfu.access u key).2.1) == ((Lfu.touch u key).2.1))) && (((Lfu.access u key).2.2) == ((Lfu.touch u key).2.2))) && ((Lfu.accessErr u key) == (Lfu.check u))) && (decide (((Lfu.run u l).1) = (⟨0, []⟩ : DUses))))) rfl rfl ?_
      refine o_and (p := 155) 4 (((Lfu.run u l).2) == 0) ?_ ?_ ?_
      ·intro hb143 hk
       simp only [Bool.and_eq_true, beq_iff_eq, decide_eq_true_eq] at hb143
       refine o_unguard 151 rfl rfl ?_
       refine o_mv (v := .int .i64 ((Lfu.run u l).2)) rfl rfl ?_
       refine o_unguard 151 rfl rfl ?_
       refine o_mv (v := .int .i64 0) rfl rfl ?_
       refine o_unguard 151 rfl rfl ?_
       refine o_pure (p_eq (p := ((Lfu.run u l).2)) (q := 0) rfl rfl) rfl rfl rfl ?_
       refine o_pt (v := .bool (((Lfu.run u l).2) == 0)) rfl rfl rfl ?_
       exact o_sub (Sub.cons rfl (Sub.skip rfl (Sub.skip rfl (Sub.skip rfl (Sub.skip rfl (Sub.skip rfl (Sub.refl _))))))) hk
      ·intro hb143 hk
       refine o_guard_no rfl 151 rfl rfl rfl rfl rfl ?_
       refine o_guard_no rfl 151 rfl rfl rfl rfl rfl ?_
       refine o_guard_no rfl 151 rfl rfl rfl rfl rfl ?_
       refine o_pf (v := .bool false) rfl rfl rfl ?_
       exact o_sub (Sub.cons rfl (Sub.skip rfl (Sub.skip rfl (Sub.skip rfl (Sub.skip rfl (Sub.skip rfl (Sub.refl _))))))) hk
      refine o_mv (v := .bool ((((((((Lfu.check u) == (Lfu.check u)) && (decide (((Lfu.access u key).1) = ((Lfu.touch u key).1)))) && (((Lfu.access u key).2.1) == ((Lfu.touch u key).2.1))) && (((Lfu.access u key).2.2) == ((Lfu.touch u key).2.2))) && ((Lfu.accessErr u key) == (Lfu.check u))) && (decide (((Lfu.run u l).1) = (⟨0, []⟩ : DUses)))) && (((Lfu.run u l).2) == 0))) rfl rfl ?_
      refine o_and (p := 160) 4 ((Lfu.runErr u l) == (Lru.trace l)) ?_ ?_ ?_
      ·intro hb144 hk
       simp only [Bool.and_eq_true, beq_iff_eq, decide_eq_true_eq] at hb144
       refine o_unguard 156 rfl rfl ?_
       refine o_mv (v := .int .i64 (Lfu.runErr u l)) rfl rfl ?_
       refine o_unguard 156 rfl rfl ?_
       refine o_mv (v := .int .i64 (Lru.trace l)) rfl rfl ?_
       refine o_unguard 156 rfl rfl ?_
       refine o_pure (p_eq (p := (Lfu.runErr u l)) (q := (Lru.trace l)) rfl rfl) rfl rfl rfl ?_
       refine o_pt (v := .bool ((Lfu.runErr u l) == (Lru.trace l))) rfl rfl rfl ?_
       exact o_sub (Sub.cons rfl (Sub.skip rfl (Sub.skip rfl (Sub.skip rfl (Sub.skip rfl (Sub.skip rfl (Sub.refl _))))))) hk
      ·intro hb144 hk
       refine o_guard_no rfl 156 rfl rfl rfl rfl rfl ?_
       refine o_guard_no rfl 156 rfl rfl rfl rfl rfl ?_
       refine o_guard_no rfl 156 rfl rfl rfl rfl rfl ?_
       refine o_pf (v := .bool false) rfl rfl rfl ?_
       exact o_sub (Sub.cons rfl (Sub.skip rfl (Sub.skip rfl (Sub.skip rfl (Sub.skip rfl (Sub.skip rfl (Sub.refl _))))))) hk
      refine o_mv (v := .bool (((((((((Lfu.check u) == (Lfu.check u)) && (decide (((Lfu.access u key).1) = ((Lfu.touch u key).1)))) && (((Lfu.access u key).2.1) == ((Lfu.touch u key).2.1))) && (((Lfu.access u key).2.2) == ((Lfu.touch u key).2.2))) && ((Lfu.accessErr u key) == (Lfu.check u))) && (decide (((Lfu.run u l).1) = (⟨0, []⟩ : DUses)))) && (((Lfu.run u l).2) == 0)) && ((Lfu.runErr u l) == (Lru.trace l)))) rfl rfl ?_
      refine o_and (p := 165) 4 (decide ((Lfu.age u) = ag)) ?_ ?_ ?_
      ·intro hb145 hk
       simp only [Bool.and_eq_true, beq_iff_eq, decide_eq_true_eq] at hb145
       refine o_unguard 161 rfl rfl ?_
       refine o_pure (p_load_agg (i := 5) (vs := [.int .i64 ((Lfu.age u).room), .slice a16 ((Lfu.age u).list).length c17]) rfl rfl sh24 rfl rfl) rfl rfl rfl ?_
       refine o_unguard 161 rfl rfl ?_
       refine o_pure (p_load_agg (i := 2) (vs := [.int .i64 ag.room, .slice aag_0 ag.list.length cag_0]) rfl rfl sh24 rfl rfl) rfl rfl rfl ?_
       refine o_unguard 161 rfl rfl ?_
       refine o_call0 (v := .bool (decide ((Lfu.age u) = ag))) rfl (sameUses_ok (Lfu.age u) a16 c17 ag aag_0 cag_0) hf26 (fun w hw => ⟨(rd_own (i := 6) rfl) w hw, (rd_own (i := 0) rfl) w hw⟩) rfl ?_
       refine o_pt (v := .bool (decide ((Lfu.age u) = ag))) rfl rfl rfl ?_
       exact o_sub (Sub.cons rfl (Sub.skip rfl (Sub.skip rfl (Sub.skip rfl (Sub.skip rfl (Sub.skip rfl (Sub.refl _))))))) hk
      ·intro hb145 hk
       refine o_guard_no rfl 161 rfl rfl rfl rfl rfl ?_
       refine o_guard_no rfl 161 rfl rfl rfl rfl rfl ?_
       refine o_guard_no rfl 161 rfl rfl rfl rfl rfl ?_
       refine o_pf (v := .bool false) rfl rfl rfl ?_
       exact o_sub (Sub.cons rfl (Sub.skip rfl (Sub.skip rfl (Sub.skip rfl (Sub.skip rfl (Sub.skip rfl (Sub.refl _))))))) hk
      refine o_mv (v := .bool ((((((((((Lfu.check u) == (Lfu.check u)) && (decide (((Lfu.access u key).1) = ((Lfu.touch u key).1)))) && (((Lfu.access u key).2.1) == ((Lfu.touch u key).2.1))) && (((Lfu.access u key).2.2) == ((Lfu.touch u key).2.2))) && ((Lfu.accessErr u key) == (Lfu.check u))) && (decide (((Lfu.run u l).1) = (⟨0, []⟩ : DUses)))) && (((Lfu.run u l).2) == 0)) && ((Lfu.runErr u l) == (Lru.trace l))) && (decide ((Lfu.age u) = ag)))) rfl rfl ?_
      refine o_and (p := 170) 4 ((Lfu.check u) == (Lfu.check u)) ?_ ?_ ?_
      ·intro hb146 hk
       simp only [Bool.and_eq_true, beq_iff_eq, decide_eq_true_eq] at hb146
       refine o_unguard 166 rfl rfl ?_
       refine o_mv (v := .int .i64 (Lfu.check u)) rfl rfl ?_
       refine o_unguard 166 rfl rfl ?_
       refine o_mv (v := .int .i64 (Lfu.check u)) rfl rfl ?_
       refine o_unguard 166 rfl rfl ?_
       refine o_pure (p_eq (p := (Lfu.check u)) (q := (Lfu.check u)) rfl rfl) rfl rfl rfl ?_
       refine o_pt (v := .bool ((Lfu.check u) == (Lfu.check u))) rfl rfl rfl ?_
       exact o_sub (Sub.cons rfl (Sub.skip rfl (Sub.skip rfl (Sub.skip rfl (Sub.skip rfl (Sub.skip rfl (Sub.refl _))))))) hk
      ·intro hb146 hk
       refine o_guard_no rfl 166 rfl rfl rfl rfl rfl ?_
       refine o_guard_no rfl 166 rfl rfl rfl rfl rfl ?_
       refine o_guard_no rfl 166 rfl rfl rfl rfl rfl ?_
       refine o_pf (v := .bool false) rfl rfl rfl ?_
       exact o_sub (Sub.cons rfl (Sub.skip rfl (Sub.skip rfl (Sub.skip rfl (Sub.skip rfl (Sub.skip rfl (Sub.refl _))))))) hk
      refine o_mv (v := .bool (((((((((((Lfu.check u) == (Lfu.check u)) && (decide (((Lfu.access u key).1) = ((Lfu.touch u key).1)))) && (((Lfu.access u key).2.1) == ((Lfu.touch u key).2.1))) && (((Lfu.access u key).2.2) == ((Lfu.touch u key).2.2))) && ((Lfu.accessErr u key) == (Lfu.check u))) && (decide (((Lfu.run u l).1) = (⟨0, []⟩ : DUses)))) && (((Lfu.run u l).2) == 0)) && ((Lfu.runErr u l) == (Lru.trace l))) && (decide ((Lfu.age u) = ag))) && ((Lfu.check u) == (Lfu.check u)))) rfl rfl ?_
      refine o_and (p := 175) 4 ((Lfu.victim u) == ((u.list.getD (Lfu.least u.list) default).key)) ?_ ?_ ?_
      ·intro hb147 hk
       simp only [Bool.and_eq_true, beq_iff_eq, decide_eq_true_eq] at hb147
       refine o_unguard 171 rfl rfl ?_
       refine o_mv (v := .int .i64 (Lfu.victim u)) rfl rfl ?_
       refine o_unguard 171 rfl rfl ?_
       refine o_mv (v := .int .i64 ((u.list.getD (Lfu.least u.list) default).key)) rfl rfl ?_
       refine o_unguard 171 rfl rfl ?_
       refine o_pure (p_eq (p := (Lfu.victim u)) (q := ((u.list.getD (Lfu.least u.list) default).key)) rfl rfl) rfl rfl rfl ?_
       refine o_pt (v := .bool ((Lfu.victim u) == ((u.list.getD (Lfu.least u.list) default).key))) rfl rfl rfl ?_
       exact o_sub (Sub.cons rfl (Sub.skip rfl (Sub.skip rfl (Sub.skip rfl (Sub.skip rfl (Sub.skip rfl (Sub.refl _))))))) hk
      ·intro hb147 hk
       refine o_guard_no rfl 171 rfl rfl rfl rfl rfl ?_
       refine o_guard_no rfl 171 rfl rfl rfl rfl rfl ?_
       refine o_guard_no rfl 171 rfl rfl rfl rfl rfl ?_
       refine o_pf (v := .bool false) rfl rfl rfl ?_
       exact o_sub (Sub.cons rfl (Sub.skip rfl (Sub.skip rfl (Sub.skip rfl (Sub.skip rfl (Sub.skip rfl (Sub.refl _))))))) hk
      refine o_mv (v := .bool ((((((((((((Lfu.check u) == (Lfu.check u)) && (decide (((Lfu.access u key).1) = ((Lfu.touch u key).1)))) && (((Lfu.access u key).2.1) == ((Lfu.touch u key).2.1))) && (((Lfu.access u key).2.2) == ((Lfu.touch u key).2.2))) && ((Lfu.accessErr u key) == (Lfu.check u))) && (decide (((Lfu.run u l).1) = (⟨0, []⟩ : DUses)))) && (((Lfu.run u l).2) == 0)) && ((Lfu.runErr u l) == (Lru.trace l))) && (decide ((Lfu.age u) = ag))) && ((Lfu.check u) == (Lfu.check u))) && ((Lfu.victim u) == ((u.list.getD (Lfu.least u.list) default).key)))) rfl rfl ?_
      refine o_and (p := 180) 4 ((Lfu.victimErr u) == (Lfu.check u)) ?_ ?_ ?_
      ·intro hb148 hk
       simp only [Bool.and_eq_true, beq_iff_eq, decide_eq_true_eq] at hb148
       refine o_unguard 176 rfl rfl ?_
       refine o_mv (v := .int .i64 (Lfu.victimErr u)) rfl rfl ?_
       refine o_unguard 176 rfl rfl ?_
       refine o_mv (v := .int .i64 (Lfu.check u)) rfl rfl ?_
       refine o_unguard 176 rfl rfl ?_
       refine o_pure (p_eq (p := (Lfu.victimErr u)) (q := (Lfu.check u)) rfl rfl) rfl rfl rfl ?_
       refine o_pt (v := .bool ((Lfu.victimErr u) == (Lfu.check u))) rfl rfl rfl ?_
       exact o_sub (Sub.cons rfl (Sub.skip rfl (Sub.skip rfl (Sub.skip rfl (Sub.skip rfl (Sub.skip rfl (Sub.refl _))))))) hk
      ·intro hb148 hk
       refine o_guard_no rfl 176 rfl rfl rfl rfl rfl ?_
       refine o_guard_no rfl 176 rfl rfl rfl rfl rfl ?_
       refine o_guard_no rfl 176 rfl rfl rfl rfl rfl ?_
       refine o_pf (v := .bool false) rfl rfl rfl ?_
       exact o_sub (Sub.cons rfl (Sub.skip rfl (Sub.skip rfl (Sub.skip rfl (Sub.skip rfl (Sub.skip rfl (Sub.refl _))))))) hk
      refine o_pure (p_assign (v := .bool (((((((((((((Lfu.check u) == (Lfu.check u)) && (decide (((Lfu.access u key).1) = ((Lfu.touch u key).1)))) && (((Lfu.access u key).2.1) == ((Lfu.touch u key).2.1))) && (((Lfu.access u key).2.2) == ((Lfu.touch u key).2.2))) && ((Lfu.accessErr u key) == (Lfu.check u))) && (decide (((Lfu.run u l).1) = (⟨0, []⟩ : DUses)))) && (((Lfu.run u l).2) == 0)) && ((Lfu.runErr u l) == (Lru.trace l))) && (decide ((Lfu.age u) = ag))) && ((Lfu.check u) == (Lfu.check u))) && ((Lfu.victim u) == ((u.list.getD (Lfu.least u.list) default).key))) && ((Lfu.victimErr u) == (Lfu.check u)))) rfl) rfl rfl rfl ?_
      refine o_nil ?_
      refine q_then ?_
      refine c_ret ?_
      have hr0 : ((((((((((((((Lfu.check u) == (Lfu.check u)) && (decide (((Lfu.access u key).1) = ((Lfu.touch u key).1)))) && (((Lfu.access u key).2.1) == ((Lfu.touch u key).2.1))) && (((Lfu.access u key).2.2) == ((Lfu.touch u key).2.2))) && ((Lfu.accessErr u key) == (Lfu.check u))) && (decide (((Lfu.run u l).1) = (⟨0, []⟩ : DUses)))) && (((Lfu.run u l).2) == 0)) && ((Lfu.runErr u l) == (Lru.trace l))) && (decide ((Lfu.age u) = ag))) && ((Lfu.check u) == (Lfu.check u))) && ((Lfu.victim u) == ((u.list.getD (Lfu.least u.list) default).key))) && ((Lfu.victimErr u) == (Lfu.check u))) : Bool) = true := by
       rcases Lfu.acc_num u key with ⟨a0, a1, a2⟩ | ⟨a0, a3, a1, a2⟩ | ⟨a0, a3, a1, a2⟩ <;> rcases Lfu.run_cases u l with ⟨b0, b1, b2⟩ | ⟨b0, b3, b1, b2⟩ | ⟨b0, b3, b1, b2⟩ <;> rcases Lfu.vic_cases u with ⟨s0, s1, s2⟩ | ⟨s0, s3, s1, s2⟩ | ⟨s0, s3, s1, s2⟩ <;> first | (exfalso; omega) | (rw [a1, a2, b1, b2, s1, s2]; first | (simp [Lfu.zero, Lfu.age, a0]; done) | (simp [Lfu.zero, Lfu.age, a0, b3]; done) | (have hag := Lfu.age_of hI.1 (hI.2.done (by omega)); rw [hag]; simp [Lfu.zero, Lfu.age, a0, b3]; done))
      refine q_end0 (v := .bool (((((((((((((Lfu.check u) == (Lfu.check u)) && (decide (((Lfu.access u key).1) = ((Lfu.touch u key).1)))) && (((Lfu.access u key).2.1) == ((Lfu.touch u key).2.1))) && (((Lfu.access u key).2.2) == ((Lfu.touch u key).2.2))) && ((Lfu.accessErr u key) == (Lfu.check u))) && (decide (((Lfu.run u l).1) = (⟨0, []⟩ : DUses)))) && (((Lfu.run u l).2) == 0)) && ((Lfu.runErr u l) == (Lru.trace l))) && (decide ((Lfu.age u) = ag))) && ((Lfu.check u) == (Lfu.check u))) && ((Lfu.victim u) == ((u.list.getD (Lfu.least u.list) default).key))) && ((Lfu.victimErr u) == (Lfu.check u)))) (rt1 rfl (r_tmp rfl)) (i := 12) rfl ?_
      exact (by have hcc := congrArg (fun (y0 : Bool) => (.bool y0 : Value)) hr0; exact hcc)
 ·simp only [beq_eq_false_iff_ne, ne_eq] at hc23
  refine c_skip ?_
  refine q_then ?_
  refine c_seq ?_
  refine c_region ?_
  refine o_call0 (v := .bool true) rfl (lfuBegun_ok ) hf24 (fun _ _ => trivial) rfl ?_
  refine o_mv (v := .bool true) rfl rfl ?_
  refine o_unguard 120 rfl rfl ?_
  refine o_pure (p_load_agg (i := 9) (vs := [.int .i64 u.room, .slice au_0 u.list.length cu_0]) rfl rfl sh24 rfl rfl) rfl rfl rfl ?_
  refine o_unguard 120 rfl rfl ?_
  refine o_call0 (v := .int .i64 (Lfu.check u)) rfl (fcheck_ok u au_0 cu_0) hf25 (fun w hw => (rd_base (i := 10) rfl hu_0) w hw) rfl ?_
  refine o_unguard 120 rfl rfl ?_
  refine o_mv (v := .int .i64 (Lfu.check u)) rfl rfl ?_
  refine o_unguard 120 rfl rfl ?_
  refine o_pure (p_eq (p := (Lfu.check u)) (q := (Lfu.check u)) rfl rfl) rfl rfl rfl ?_
  refine o_pt (v := .bool ((Lfu.check u) == (Lfu.check u))) rfl rfl rfl ?_
  refine o_mv (v := .bool ((Lfu.check u) == (Lfu.check u))) rfl rfl ?_
  refine o_and (p := 130) 4 (decide (((Lfu.access u key).1) = (⟨0, []⟩ : DUses))) ?_ ?_ ?_
  ·intro hb149 hk
   simp only [beq_iff_eq] at hb149
   refine o_unguard 126 rfl rfl ?_
   refine o_pure (p_load_agg (i := 7) (vs := [.int .i64 (((Lfu.access u key).1).room), .slice a4 (((Lfu.access u key).1).list).length c5]) rfl rfl sh24 rfl rfl) rfl rfl rfl ?_
   refine o_unguard 126 rfl rfl ?_
   refine o_pure (p_load_agg (i := 2) (vs := [.int .i64 0, .slice none 0 0]) rfl rfl sh24 rfl rfl) rfl rfl rfl ?_
   refine o_unguard 126 rfl rfl ?_
   refine o_call0 (v := .bool (decide (((Lfu.access u key).1) = (⟨0, []⟩ : DUses)))) rfl (sameUses_ok ((Lfu.access u key).1) a4 c5 (⟨0, []⟩ : DUses) none 0) hf26 (fun w hw => ⟨(rd_own (i := 8) rfl) w hw, rd_nil w hw⟩) rfl ?_
   refine o_pt (v := .bool (decide (((Lfu.access u key).1) = (⟨0, []⟩ : DUses)))) rfl rfl rfl ?_
   exact o_sub (Sub.cons rfl (Sub.skip rfl (Sub.skip rfl (Sub.skip rfl (Sub.skip rfl (Sub.skip rfl (Sub.refl _))))))) hk
  ·intro hb149 hk
   refine o_guard_no rfl 126 rfl rfl rfl rfl rfl ?_
   refine o_guard_no rfl 126 rfl rfl rfl rfl rfl ?_
   refine o_guard_no rfl 126 rfl rfl rfl rfl rfl ?_
   refine o_pf (v := .bool false) rfl rfl rfl ?_
   exact o_sub (Sub.cons rfl (Sub.skip rfl (Sub.skip rfl (Sub.skip rfl (Sub.skip rfl (Sub.skip rfl (Sub.refl _))))))) hk
  refine o_mv (v := .bool (((Lfu.check u) == (Lfu.check u)) && (decide (((Lfu.access u key).1) = (⟨0, []⟩ : DUses))))) rfl rfl ?_
  refine o_and (p := 135) 4 (((Lfu.access u key).2.1) == false) ?_ ?_ ?_
  ·intro hb150 hk
   simp only [Bool.and_eq_true, beq_iff_eq, decide_eq_true_eq] at hb150
   refine o_unguard 131 rfl rfl ?_
   refine o_mv (v := .bool ((Lfu.access u key).2.1)) rfl rfl ?_
   refine o_unguard 131 rfl rfl ?_
   refine o_mv (v := .bool false) rfl rfl ?_
   refine o_unguard 131 rfl rfl ?_
   refine o_pure (p_eqBool (b := ((Lfu.access u key).2.1)) (c := false) rfl rfl Try.underlying4) rfl rfl rfl ?_
   refine o_pt (v := .bool (((Lfu.access u key).2.1) == false)) rfl rfl rfl ?_
   exact o_sub (Sub.cons rfl (Sub.skip rfl (Sub.skip rfl (Sub.skip rfl (Sub.skip rfl (Sub.skip rfl (Sub.refl _))))))) hk
  ·intro hb150 hk
   refine o_guard_no rfl 131 rfl rfl rfl rfl rfl ?_
   refine o_guard_no rfl 131 rfl rfl rfl rfl rfl ?_
   refine o_guard_no rfl 131 rfl rfl rfl rfl rfl ?_
   refine o_pf (v := .bool false) rfl rfl rfl ?_
   exact o_sub (Sub.cons rfl (Sub.skip rfl (Sub.skip rfl (Sub.skip rfl (Sub.skip rfl (Sub.skip rfl (Sub.refl _))))))) hk
  refine o_mv (v := .bool ((((Lfu.check u) == (Lfu.check u)) && (decide (((Lfu.access u key).1) = (⟨0, []⟩ : DUses)))) && (((Lfu.access u key).2.1) == false))) rfl rfl ?_
  refine o_and (p := 140) 4 (((Lfu.access u key).2.2) == 0) ?_ ?_ ?_
  ·intro hb151 hk
   simp only [Bool.and_eq_true, beq_iff_eq, decide_eq_true_eq] at hb151
   refine o_unguard 136 rfl rfl ?_
   refine o_mv (v := .int .i64 ((Lfu.access u key).2.2)) rfl rfl ?_
   refine o_unguard 136 rfl rfl ?_
   refine o_mv (v := .int .i64 0) rfl rfl ?_
   refine o_unguard 136 rfl rfl ?_
   refine o_pure (p_eq (p := ((Lfu.access u key).2.2)) (q := 0) rfl rfl) rfl rfl rfl ?_
   refine o_pt (v := .bool (((Lfu.access u key).2.2) == 0)) rfl rfl rfl ?_
   exact o_sub (Sub.cons rfl (Sub.skip rfl (Sub.skip rfl (Sub.skip rfl (Sub.skip rfl (Sub.skip rfl (Sub.refl _))))))) hk
  ·intro hb151 hk
   refine o_guard_no rfl 136 rfl rfl rfl rfl rfl ?_
   refine o_guard_no rfl 136 rfl rfl rfl rfl rfl ?_
   refine o_guard_no rfl 136 rfl rfl rfl rfl rfl ?_
   refine o_pf (v := .bool false) rfl rfl rfl ?_
   exact o_sub (Sub.cons rfl (Sub.skip rfl (Sub.skip rfl (Sub.skip rfl (Sub.skip rfl (Sub.skip rfl (Sub.refl _))))))) hk
  refine o_mv (v := .bool (((((Lfu.check u) == (Lfu.check u)) && (decide (((Lfu.access u key).1) = (⟨0, []⟩ : DUses)))) && (((Lfu.access u key).2.1) == false)) && (((Lfu.access u key).2.2) == 0))) rfl rfl ?_
  refine o_and (p := 145) 4 ((Lfu.accessErr u key) == (Lfu.check u)) ?_ ?_ ?_
  ·intro hb152 hk
   simp only [Bool.and_eq_true, beq_iff_eq, decide_eq_true_eq] at hb152
   refine o_unguard 141 rfl rfl ?_
   refine o_mv (v := .int .i64 (Lfu.accessErr u key)) rfl rfl ?_
   refine o_unguard 141 rfl rfl ?_
   refine o_mv (v := .int .i64 (Lfu.check u)) rfl rfl ?_
   refine o_unguard 141 rfl rfl ?_
   refine o_pure (p_eq (p := (Lfu.accessErr u key)) (q := (Lfu.check u)) rfl rfl) rfl rfl rfl ?_
   refine o_pt (v := .bool ((Lfu.accessErr u key) == (Lfu.check u))) rfl rfl rfl ?_
   exact o_sub (Sub.cons rfl (Sub.skip rfl (Sub.skip rfl (Sub.skip rfl (Sub.skip rfl (Sub.skip rfl (Sub.refl _))))))) hk
  ·intro hb152 hk
   refine o_guard_no rfl 141 rfl rfl rfl rfl rfl ?_
   refine o_guard_no rfl 141 rfl rfl rfl rfl rfl ?_
   refine o_guard_no rfl 141 rfl rfl rfl rfl rfl ?_
   refine o_pf (v := .bool false) rfl rfl rfl ?_
   exact o_sub (Sub.cons rfl (Sub.skip rfl (Sub.skip rfl (Sub.skip rfl (Sub.skip rfl (Sub.skip rfl (Sub.refl _))))))) hk
  refine o_mv (v := .bool ((((((Lfu.check u) == (Lfu.check u)) && (decide (((Lfu.access u key).1) = (⟨0, []⟩ : DUses)))) && (((Lfu.access u key).2.1) == false)) && (((Lfu.access u key).2.2) == 0)) && ((Lfu.accessErr u key) == (Lfu.check u)))) rfl rfl ?_
  refine o_and (p := 150) 4 (decide (((Lfu.run u l).1) = (⟨0, []⟩ : DUses))) ?_ ?_ ?_
  ·intro hb153 hk
   simp only [Bool.and_eq_true, beq_iff_eq, decide_eq_true_eq] at hb153
   refine o_unguard 146 rfl rfl ?_
   refine o_pure (p_load_agg (i := 5) (vs := [.int .i64 (((Lfu.run u l).1).room), .slice a10 (((Lfu.run u l).1).list).length c11]) rfl rfl sh24 rfl rfl) rfl rfl rfl ?_
   refine o_unguard 146 rfl rfl ?_
   refine o_pure (p_load_agg (i := 1) (vs := [.int .i64 0, .slice none 0 0]) rfl rfl sh24 rfl rfl) rfl rfl rfl ?_
   refine o_unguard 146 rfl rfl ?_
   refine o_call0 (v := .bool (decide (((Lfu.run u l).1) = (⟨0, []⟩ : DUses)))) rfl (sameUses_ok ((Lfu.run u l).1) a10 c11 (⟨0, []⟩ : DUses) none 0) hf26 (fun w hw => ⟨(rd_own (i := 6) rfl) w hw, rd_nil w hw⟩) rfl ?_
   refine o_pt (v := .bool (decide (((Lfu.run u l).1) = (⟨0, []⟩ : DUses)))) rfl rfl rfl ?_
   exact o_sub (Sub.cons rfl (Sub.skip rfl (Sub.skip rfl (Sub.skip rfl (Sub.skip rfl (Sub.skip rfl (Sub.refl _))))))) hk
  ·intro hb153 hk
   refine o_guard_no rfl 146 rfl rfl rfl rfl rfl ?_
   refine o_guard_no rfl 146 rfl rfl rfl rfl rfl ?_
   refine o_guard_no rfl 146 rfl rfl rfl rfl rfl ?_
   refine o_pf (v := .bool false) rfl rfl rfl ?_
   exact o_sub (Sub.cons rfl (Sub.skip rfl (Sub.skip rfl (Sub.skip rfl (Sub.skip rfl (Sub.skip rfl (Sub.refl _))))))) hk
  refine o_mv (v := .bool (((((((Lfu.check u) == (Lfu.check u)) && (decide (((Lfu.access u key).1) = (⟨0, []⟩ : DUses)))) && (((Lfu.access u key).2.1) == false)) && (((Lfu.access u key).2.2) == 0)) && ((Lfu.accessErr u key) == (Lfu.check u))) && (decide (((Lfu.run u l).1) = (⟨0, []⟩ : DUses))))) rfl rfl ?_
  refine o_and (p := 155) 4 (((Lfu.run u l).2) == 0) ?_ ?_ ?_
  ·intro hb154 hk
   simp only [Bool.and_eq_true, beq_iff_eq, decide_eq_true_eq] at hb154
   refine o_unguard 151 rfl rfl ?_
   refine o_mv (v := .int .i64 ((Lfu.run u l).2)) rfl rfl ?_
   refine o_unguard 151 rfl rfl ?_
   refine o_mv (v := .int .i64 0) rfl rfl ?_
   refine o_unguard 151 rfl rfl ?_
   refine o_pure (p_eq (p := ((Lfu.run u l).2)) (q := 0) rfl rfl) rfl rfl rfl ?_
   refine o_pt (v := .bool (((Lfu.run u l).2) == 0)) rfl rfl rfl ?_
   exact o_sub (Sub.cons rfl (Sub.skip rfl (Sub.skip rfl (Sub.skip rfl (Sub.skip rfl (Sub.skip rfl (Sub.refl _))))))) hk
  ·intro hb154 hk
   refine o_guard_no rfl 151 rfl rfl rfl rfl rfl ?_
   refine o_guard_no rfl 151 rfl rfl rfl rfl rfl ?_
   refine o_guard_no rfl 151 rfl rfl rfl rfl rfl ?_
   refine o_pf (v := .bool false) rfl rfl rfl ?_
   exact o_sub (Sub.cons rfl (Sub.skip rfl (Sub.skip rfl (Sub.skip rfl (Sub.skip rfl (Sub.skip rfl (Sub.refl _))))))) hk
  refine o_mv (v := .bool ((((((((Lfu.check u) == (Lfu.check u)) && (decide (((Lfu.access u key).1) = (⟨0, []⟩ : DUses)))) && (((Lfu.access u key).2.1) == false)) && (((Lfu.access u key).2.2) == 0)) && ((Lfu.accessErr u key) == (Lfu.check u))) && (decide (((Lfu.run u l).1) = (⟨0, []⟩ : DUses)))) && (((Lfu.run u l).2) == 0))) rfl rfl ?_
  refine o_and (p := 160) 4 ((Lfu.runErr u l) == (Lfu.check u)) ?_ ?_ ?_
  ·intro hb155 hk
   simp only [Bool.and_eq_true, beq_iff_eq, decide_eq_true_eq] at hb155
   refine o_unguard 156 rfl rfl ?_
   refine o_mv (v := .int .i64 (Lfu.runErr u l)) rfl rfl ?_
   refine o_unguard 156 rfl rfl ?_
   refine o_mv (v := .int .i64 (Lfu.check u)) rfl rfl ?_
   refine o_unguard 156 rfl rfl ?_
   refine o_pure (p_eq (p := (Lfu.runErr u l)) (q := (Lfu.check u)) rfl rfl) rfl rfl rfl ?_
   refine o_pt (v := .bool ((Lfu.runErr u l) == (Lfu.check u))) rfl rfl rfl ?_
   exact o_sub (Sub.cons rfl (Sub.skip rfl (Sub.skip rfl (Sub.skip rfl (Sub.skip rfl (Sub.skip rfl (Sub.refl _))))))) hk
  ·intro hb155 hk
   refine o_guard_no rfl 156 rfl rfl rfl rfl rfl ?_
   refine o_guard_no rfl 156 rfl rfl rfl rfl rfl ?_
   refine o_guard_no rfl 156 rfl rfl rfl rfl rfl ?_
   refine o_pf (v := .bool false) rfl rfl rfl ?_
   exact o_sub (Sub.cons rfl (Sub.skip rfl (Sub.skip rfl (Sub.skip rfl (Sub.skip rfl (Sub.skip rfl (Sub.refl _))))))) hk
  refine o_mv (v := .bool (((((((((Lfu.check u) == (Lfu.check u)) && (decide (((Lfu.access u key).1) = (⟨0, []⟩ : DUses)))) && (((Lfu.access u key).2.1) == false)) && (((Lfu.access u key).2.2) == 0)) && ((Lfu.accessErr u key) == (Lfu.check u))) && (decide (((Lfu.run u l).1) = (⟨0, []⟩ : DUses)))) && (((Lfu.run u l).2) == 0)) && ((Lfu.runErr u l) == (Lfu.check u)))) rfl rfl ?_
  refine o_and (p := 165) 4 (decide ((Lfu.age u) = (⟨0, []⟩ : DUses))) ?_ ?_ ?_
  ·intro hb156 hk
   simp only [Bool.and_eq_true, beq_iff_eq, decide_eq_true_eq] at hb156
   refine o_unguard 161 rfl rfl ?_
   refine o_pure (p_load_agg (i := 3) (vs := [.int .i64 ((Lfu.age u).room), .slice a16 ((Lfu.age u).list).length c17]) rfl rfl sh24 rfl rfl) rfl rfl rfl ?_
   refine o_unguard 161 rfl rfl ?_
   refine o_pure (p_load_agg (i := 0) (vs := [.int .i64 0, .slice none 0 0]) rfl rfl sh24 rfl rfl) rfl rfl rfl ?_
   refine o_unguard 161 rfl rfl ?_
   refine o_call0 (v := .bool (decide ((Lfu.age u) = (⟨0, []⟩ : DUses)))) rfl (sameUses_ok (Lfu.age u) a16 c17 (⟨0, []⟩ : DUses) none 0) hf26 (fun w hw => ⟨(rd_own (i := 4) rfl) w hw, rd_nil w hw⟩) rfl ?_
   refine o_pt (v := .bool (decide ((Lfu.age u) = (⟨0, []⟩ : DUses)))) rfl rfl rfl ?_
   exact o_sub (Sub.cons rfl (Sub.skip rfl (Sub.skip rfl (Sub.skip rfl (Sub.skip rfl (Sub.skip rfl (Sub.refl _))))))) hk
  ·intro hb156 hk
   refine o_guard_no rfl 161 rfl rfl rfl rfl rfl ?_
   refine o_guard_no rfl 161 rfl rfl rfl rfl rfl ?_
   refine o_guard_no rfl 161 rfl rfl rfl rfl rfl ?_
   refine o_pf (v := .bool false) rfl rfl rfl ?_
   exact o_sub (Sub.cons rfl (Sub.skip rfl (Sub.skip rfl (Sub.skip rfl (Sub.skip rfl (Sub.skip rfl (Sub.refl _))))))) hk
  refine o_mv (v := .bool ((((((((((Lfu.check u) == (Lfu.check u)) && (decide (((Lfu.access u key).1) = (⟨0, []⟩ : DUses)))) && (((Lfu.access u key).2.1) == false)) && (((Lfu.access u key).2.2) == 0)) && ((Lfu.accessErr u key) == (Lfu.check u))) && (decide (((Lfu.run u l).1) = (⟨0, []⟩ : DUses)))) && (((Lfu.run u l).2) == 0)) && ((Lfu.runErr u l) == (Lfu.check u))) && (decide ((Lfu.age u) = (⟨0, []⟩ : DUses))))) rfl rfl ?_
  refine o_and (p := 170) 4 ((Lfu.check u) == (Lfu.check u)) ?_ ?_ ?_
  ·intro hb157 hk
   simp only [Bool.and_eq_true, beq_iff_eq, decide_eq_true_eq] at hb157
   refine o_unguard 166 rfl rfl ?_
   refine o_mv (v := .int .i64 (Lfu.check u)) rfl rfl ?_
   refine o_unguard 166 rfl rfl ?_
   refine o_mv (v := .int .i64 (Lfu.check u)) rfl rfl ?_
   refine o_unguard 166 rfl rfl ?_
   refine o_pure (p_eq (p := (Lfu.check u)) (q := (Lfu.check u)) rfl rfl) rfl rfl rfl ?_
   refine o_pt (v := .bool ((Lfu.check u) == (Lfu.check u))) rfl rfl rfl ?_
   exact o_sub (Sub.cons rfl (Sub.skip rfl (Sub.skip rfl (Sub.skip rfl (Sub.skip rfl (Sub.skip rfl (Sub.refl _))))))) hk
  ·intro hb157 hk
   refine o_guard_no rfl 166 rfl rfl rfl rfl rfl ?_
   refine o_guard_no rfl 166 rfl rfl rfl rfl rfl ?_
   refine o_guard_no rfl 166 rfl rfl rfl rfl rfl ?_
   refine o_pf (v := .bool false) rfl rfl rfl ?_
   exact o_sub (Sub.cons rfl (Sub.skip rfl (Sub.skip rfl (Sub.skip rfl (Sub.skip rfl (Sub.skip rfl (Sub.refl _))))))) hk
  refine o_mv (v := .bool (((((((((((Lfu.check u) == (Lfu.check u)) && (decide (((Lfu.access u key).1) = (⟨0, []⟩ : DUses)))) && (((Lfu.access u key).2.1) == false)) && (((Lfu.access u key).2.2) == 0)) && ((Lfu.accessErr u key) == (Lfu.check u))) && (decide (((Lfu.run u l).1) = (⟨0, []⟩ : DUses)))) && (((Lfu.run u l).2) == 0)) && ((Lfu.runErr u l) == (Lfu.check u))) && (decide ((Lfu.age u) = (⟨0, []⟩ : DUses)))) && ((Lfu.check u) == (Lfu.check u)))) rfl rfl ?_
  refine o_and (p := 175) 4 ((Lfu.victim u) == 0) ?_ ?_ ?_
  ·intro hb158 hk
   simp only [Bool.and_eq_true, beq_iff_eq, decide_eq_true_eq] at hb158
   refine o_unguard 171 rfl rfl ?_
   refine o_mv (v := .int .i64 (Lfu.victim u)) rfl rfl ?_
   refine o_unguard 171 rfl rfl ?_
   refine o_mv (v := .int .i64 0) rfl rfl ?_
   refine o_unguard 171 rfl rfl ?_
   refine o_pure (p_eq (p := (Lfu.victim u)) (q := 0) rfl rfl) rfl rfl rfl ?_
   refine o_pt (v := .bool ((Lfu.victim u) == 0)) rfl rfl rfl ?_
   exact o_sub (Sub.cons rfl (Sub.skip rfl (Sub.skip rfl (Sub.skip rfl (Sub.skip rfl (Sub.skip rfl (Sub.refl _))))))) hk
  ·intro hb158 hk
   refine o_guard_no rfl 171 rfl rfl rfl rfl rfl ?_
   refine o_guard_no rfl 171 rfl rfl rfl rfl rfl ?_
   refine o_guard_no rfl 171 rfl rfl rfl rfl rfl ?_
   refine o_pf (v := .bool false) rfl rfl rfl ?_
   exact o_sub (Sub.cons rfl (Sub.skip rfl (Sub.skip rfl (Sub.skip rfl (Sub.skip rfl (Sub.skip rfl (Sub.refl _))))))) hk
  refine o_mv (v := .bool ((((((((((((Lfu.check u) == (Lfu.check u)) && (decide (((Lfu.access u key).1) = (⟨0, []⟩ : DUses)))) && (((Lfu.access u key).2.1) == false)) && (((Lfu.access u key).2.2) == 0)) && ((Lfu.accessErr u key) == (Lfu.check u))) && (decide (((Lfu.run u l).1) = (⟨0, []⟩ : DUses)))) && (((Lfu.run u l).2) == 0)) && ((Lfu.runErr u l) == (Lfu.check u))) && (decide ((Lfu.age u) = (⟨0, []⟩ : DUses)))) && ((Lfu.check u) == (Lfu.check u))) && ((Lfu.victim u) == 0))) rfl rfl ?_
  refine o_and (p := 180) 4 ((Lfu.victimErr u) == (Lfu.check u)) ?_ ?_ ?_
  ·intro hb159 hk
   simp only [Bool.and_eq_true, beq_iff_eq, decide_eq_true_eq] at hb159
   refine o_unguard 176 rfl rfl ?_
   refine o_mv (v := .int .i64 (Lfu.victimErr u)) rfl rfl ?_
   refine o_unguard 176 rfl rfl ?_
   refine o_mv (v := .int .i64 (Lfu.check u)) rfl rfl ?_
   refine o_unguard 176 rfl rfl ?_
   refine o_pure (p_eq (p := (Lfu.victimErr u)) (q := (Lfu.check u)) rfl rfl) rfl rfl rfl ?_
   refine o_pt (v := .bool ((Lfu.victimErr u) == (Lfu.check u))) rfl rfl rfl ?_
   exact o_sub (Sub.cons rfl (Sub.skip rfl (Sub.skip rfl (Sub.skip rfl (Sub.skip rfl (Sub.skip rfl (Sub.refl _))))))) hk
  ·intro hb159 hk
   refine o_guard_no rfl 176 rfl rfl rfl rfl rfl ?_
   refine o_guard_no rfl 176 rfl rfl rfl rfl rfl ?_
   refine o_guard_no rfl 176 rfl rfl rfl rfl rfl ?_
   refine o_pf (v := .bool false) rfl rfl rfl ?_
   exact o_sub (Sub.cons rfl (Sub.skip rfl (Sub.skip rfl (Sub.skip rfl (Sub.skip rfl (Sub.skip rfl (Sub.refl _))))))) hk
  refine o_pure (p_assign (v := .bool (((((((((((((Lfu.check u) == (Lfu.check u)) && (decide (((Lfu.access u key).1) = (⟨0, []⟩ : DUses)))) && (((Lfu.access u key).2.1) == false)) && (((Lfu.access u key).2.2) == 0)) && ((Lfu.accessErr u key) == (Lfu.check u))) && (decide (((Lfu.run u l).1) = (⟨0, []⟩ : DUses)))) && (((Lfu.run u l).2) == 0)) && ((Lfu.runErr u l) == (Lfu.check u))) && (decide ((Lfu.age u) = (⟨0, []⟩ : DUses)))) && ((Lfu.check u) == (Lfu.check u))) && ((Lfu.victim u) == 0)) && ((Lfu.victimErr u) == (Lfu.check u)))) rfl) rfl rfl rfl ?_
  refine o_nil ?_
  refine q_then ?_
  refine c_ret ?_
  have hr0 : ((((((((((((((Lfu.check u) == (Lfu.check u)) && (decide (((Lfu.access u key).1) = (⟨0, []⟩ : DUses)))) && (((Lfu.access u key).2.1) == false)) && (((Lfu.access u key).2.2) == 0)) && ((Lfu.accessErr u key) == (Lfu.check u))) && (decide (((Lfu.run u l).1) = (⟨0, []⟩ : DUses)))) && (((Lfu.run u l).2) == 0)) && ((Lfu.runErr u l) == (Lfu.check u))) && (decide ((Lfu.age u) = (⟨0, []⟩ : DUses)))) && ((Lfu.check u) == (Lfu.check u))) && ((Lfu.victim u) == 0)) && ((Lfu.victimErr u) == (Lfu.check u))) : Bool) = true := by
   rcases Lfu.acc_num u key with ⟨a0, a1, a2⟩ | ⟨a0, a3, a1, a2⟩ | ⟨a0, a3, a1, a2⟩ <;> rcases Lfu.run_cases u l with ⟨b0, b1, b2⟩ | ⟨b0, b3, b1, b2⟩ | ⟨b0, b3, b1, b2⟩ <;> rcases Lfu.vic_cases u with ⟨s0, s1, s2⟩ | ⟨s0, s3, s1, s2⟩ | ⟨s0, s3, s1, s2⟩ <;> first | (exfalso; omega) | (rw [a1, a2, b1, b2, s1, s2]; first | (simp [Lfu.zero, Lfu.age, a0]; done) | (simp [Lfu.zero, Lfu.age, a0, b3]; done) | (have hag := Lfu.age_of hI.1 (hI.2.done (by omega)); rw [hag]; simp [Lfu.zero, Lfu.age, a0, b3]; done))
  refine q_end0 (v := .bool (((((((((((((Lfu.check u) == (Lfu.check u)) && (decide (((Lfu.access u key).1) = (⟨0, []⟩ : DUses)))) && (((Lfu.access u key).2.1) == false)) && (((Lfu.access u key).2.2) == 0)) && ((Lfu.accessErr u key) == (Lfu.check u))) && (decide (((Lfu.run u l).1) = (⟨0, []⟩ : DUses)))) && (((Lfu.run u l).2) == 0)) && ((Lfu.runErr u l) == (Lfu.check u))) && (decide ((Lfu.age u) = (⟨0, []⟩ : DUses)))) && ((Lfu.check u) == (Lfu.check u))) && ((Lfu.victim u) == 0)) && ((Lfu.victimErr u) == (Lfu.check u)))) (rt1 rfl (r_tmp rfl)) (i := 10) rfl ?_
  exact (by have hcc := congrArg (fun (y0 : Bool) => (.bool y0 : Value)) hr0; exact hcc)
end Go.Proofs.Ytagbihjkdejdjaa
