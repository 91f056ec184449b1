/- The walks, printed by a program from the translation and a specification. -/
import Derived.Test.YthecfjipaepcgaaTaF
import Derived.Test.YthecfjipaepcgaaTaPureM7
import Derived.Test.YthecfjipaepcgaaTaW6M12
import Derived.Test.YthecfjipaepcgaaProg
import Derived.Test.YthecfjipaepcgaaSx12M17
namespace Go.Proofs.Ythecfjipaepcgaa
open Go.Sx Go.RowKit
set_option maxHeartbeats 8000000 in
set_option maxRecDepth 100000 in
theorem tableSpec_ok (tt : List DSlot) (att : Option Addr) (ctt : Nat) (key : ByteArray) (value : Int) (slots : Int) : Fn0 Try.prog 3 [.slice att tt.length ctt, .string key, Vi value, Vi slots] (fun w => Rd tSlot w att ctt tt) (.bool true) := by
 refine fn0 (nt := 205) (F0 := [(0, .slice att tt.length ctt), (1, .string key), (2, Vi value), (3, Vi slots)]) Try.func3 rfl Try.ntmps3 rfl rfl (fun w0 hpre => ?_)
 have htt := hpre
 have hlhtt := htt.2.1
 refine c_seq (c_region ?_)
 refine o_as rfl rfl ?_
 refine o_nil (q_then (c_seq (c_region ?_)))
 refine o_mv rfl rfl ?_
 refine o_mv rfl rfl ?_
 refine o_call0 (v := .tuple #[Vi (Tab.has tt key), Vi (Tab.looked tt key), Vi (Tab.keyErr tt key)]) rfl (tget_ok tt att ctt key) hf15 (fun w hw => (rd_base (i := 0) rfl htt) w hw) rfl ?_
 refine o_mv rfl rfl ?_
 refine o_ex rfl rfl rfl ?_
 refine o_ex rfl rfl rfl ?_
 refine o_ex rfl rfl rfl ?_
 refine o_as rfl rfl ?_
 refine o_as rfl rfl ?_
 refine o_as rfl rfl ?_
 refine o_nil (q_then (c_seq (c_region ?_)))
 refine o_mv rfl rfl ?_
 refine o_mv rfl rfl ?_
 refine o_mv rfl rfl ?_
 refine o_callM rfl (tPut_ok tt att ctt key value) hf16 (fun w hw => (rd_base (i := 0) rfl htt) w hw) rfl (fun _ _ _ _ ha hA => SlO.agree ha hA) ?_
 rintro ⟨a3, c4⟩ S1
 refine o_know (fun w hw => own_len (i := 0) (T := tSlot) hw rfl) (fun hlr5 => ?_)
 refine o_mv rfl rfl ?_
 refine o_ex rfl rfl rfl ?_
 refine o_ex rfl rfl rfl ?_
 refine o_as rfl rfl ?_
 refine o_as rfl rfl ?_
 refine o_nil (q_then (c_seq (c_region ?_)))
 refine o_mv rfl rfl ?_
 refine o_mv rfl rfl ?_
 refine o_callM rfl (tdelete_ok tt att ctt key) hf17 (fun w hw => (rd_base (i := 1) rfl htt) w hw) rfl (fun _ _ _ _ ha hA => SlO.agree ha hA) ?_
 rintro ⟨a8, c9⟩ S6
 refine o_know (fun w hw => own_len (i := 0) (T := tSlot) hw rfl) (fun hlr10 => ?_)
 refine o_mv rfl rfl ?_
 refine o_ex rfl rfl rfl ?_
 refine o_ex rfl rfl rfl ?_
 refine o_as rfl rfl ?_
 refine o_as rfl rfl ?_
 refine o_nil (q_then (c_seq (c_region ?_)))
 refine o_mv rfl rfl ?_
 refine o_mv rfl rfl ?_
 refine o_callM rfl (tresize_ok tt att ctt slots) hf18 (fun w hw => (rd_base (i := 2) rfl htt) w hw) rfl (fun _ _ _ _ ha hA => SlO.agree ha hA) ?_
 rintro ⟨a13, c14⟩ S11
 refine o_know (fun w hw => own_len (i := 0) (T := tSlot) hw rfl) (fun hlr15 => ?_)
 refine o_mv rfl rfl ?_
 refine o_ex rfl rfl rfl ?_
 refine o_ex rfl rfl rfl ?_
 refine o_as rfl rfl ?_
 refine o_as rfl rfl ?_
 refine o_nil (q_then (c_seq (c_region ?_)))
 refine o_mv rfl rfl ?_
 refine o_call0 (v := Vi (Tab.check tt)) rfl (tableCheck_ok tt att ctt) hf19 (fun w hw => (rd_base (i := 3) rfl htt) w hw) rfl ?_
 refine o_as rfl rfl ?_
 refine o_nil (q_then (c_seq (c_region ?_)))
 refine o_mv rfl rfl ?_
 refine o_mv rfl rfl ?_
 refine o_mv rfl rfl ?_
 refine o_as rfl rfl ?_
 refine o_as rfl rfl ?_
 refine o_as rfl rfl ?_
 refine o_nil (q_then (c_seq (c_region ?_)))
 refine o_as rfl rfl ?_
 refine o_as rfl rfl ?_
 refine o_nil (q_then (c_seq (c_region ?_)))
 refine o_as rfl rfl ?_
 refine o_as rfl rfl ?_
 refine o_as rfl rfl ?_
 refine o_nil (q_then (c_seq (c_seq (c_region ?_))))
 refine o_mv rfl rfl ?_
 refine o_p (p_eq rfl rfl) ?_
 refine o_nil (q_then ?_)
 refine c_heap (H' := [loose tSlot (False) (fun _ => False) none 0 ([] : List DSlot), own tSlot S11 a13 c14 (Tab.sizeR tt slots), own tSlot S6 a8 c9 (Tab.delR tt key), own tSlot S1 a3 c4 (Tab.putR tt key value), base w0]) (fun w hw => HeapIs.looseNil tSlot hw) ?_
 refine c_heap (H' := [loose tSlot (False) (fun _ => False) none 0 ([] : List DSlot), loose tSlot (False) (fun _ => False) none 0 ([] : List DSlot), own tSlot S11 a13 c14 (Tab.sizeR tt slots), own tSlot S6 a8 c9 (Tab.delR tt key), own tSlot S1 a3 c4 (Tab.putR tt key value), base w0]) (fun w hw => HeapIs.looseNil tSlot hw) ?_
 refine c_heap (H' := [loose tSlot (False) (fun _ => False) none 0 ([] : List DSlot), loose tSlot (False) (fun _ => False) none 0 ([] : List DSlot), loose tSlot (False) (fun _ => False) none 0 ([] : List DSlot), own tSlot S11 a13 c14 (Tab.sizeR tt slots), own tSlot S6 a8 c9 (Tab.delR tt key), own tSlot S1 a3 c4 (Tab.putR tt key value), base w0]) (fun w hw => HeapIs.looseNil tSlot hw) ?_
 refine c_join (G := Int × Int × Int × Int × Int × List DSlot × Option Addr × Nat × (Nat → Prop) × List DSlot × Option Addr × Nat × (Nat → Prop) × List DSlot × Option Addr × Nat × (Nat → Prop))
  (fun ⟨v, u, o, has, many, put, aput, cput, Sput, less, aless, cless, Sless, grown, agrown, cgrown, Sgrown⟩ => [(0, .slice att tt.length ctt), (9, Vi (Tab.has tt key)), (10, Vi (Tab.looked tt key)), (11, Vi (Tab.keyErr tt key)), (12, .slice a3 (Tab.putR tt key value).length c4), (13, Vi (Tab.putErr tt key value)), (14, .slice a8 (Tab.delR tt key).length c9), (15, Vi (Tab.keyErr tt key)), (16, .slice a13 (Tab.sizeR tt slots).length c14), (17, Vi (Tab.sizeErr tt slots)), (18, Vi (Tab.check tt)), (19, Vi v), (20, Vi u), (21, Vi o), (22, Vi has), (23, Vi many), (24, .slice aput put.length cput), (25, .slice aless less.length cless), (26, .slice agrown grown.length cgrown)])
  (fun ⟨v, u, o, has, many, put, aput, cput, Sput, less, aless, cless, Sless, grown, agrown, cgrown, Sgrown⟩ => [loose tSlot (False) Sgrown agrown cgrown grown, loose tSlot (False) Sless aless cless less, loose tSlot (False) Sput aput cput put, own tSlot S11 a13 c14 (Tab.sizeR tt slots), own tSlot S6 a8 c9 (Tab.delR tt key), own tSlot S1 a3 c4 (Tab.putR tt key value), base w0])
  (fun ⟨v, u, o, has, many, put, aput, cput, Sput, less, aless, cless, Sless, grown, agrown, cgrown, Sgrown⟩ => (v = Tab.keyErr tt key ∧ has = Tab.has tt key ∧ many = Tab.looked tt key ∧ less = Tab.delR tt key) ∧ (u = Tab.putErr tt key value ∧ put = Tab.putR tt key value) ∧ (o = Tab.sizeErr tt slots ∧ grown = Tab.sizeR tt slots))
  (fun K hK19 => ?_) ?_
 ·refine c_cond rfl (fun hc20 => ?_) (fun hc20 => ?_)
  ·simp only [beq_iff_eq] at hc20
   have hck := hc20
   have hTok := Tab.check_ok.1 hc20
   have hln := hTok.len
   have hhb := Tab.home_bd key (n := (tt.length : Int)) (by omega)
   have hn64 : (tt.length : Int) ≤ 64 := by omega
   refine c_seq (c_region ?_)
   refine o_mv rfl rfl ?_
   refine o_mv rfl rfl ?_
   refine o_call0 (v := Vi (Tab.slotOf tt key)) rfl (slotOf_ok tt att ctt key) hf20 (fun w hw => (rd_base (i := 6) rfl htt) w hw) rfl ?_
   refine o_as rfl rfl ?_
   refine o_nil (q_then (c_seq (c_seq (c_region ?_))))
   refine o_mv rfl rfl ?_
   refine o_p (p_len_string rfl rfl Try.underlying9) ?_
   refine o_p (p_gt rfl rfl) ?_
   refine o_nil (q_then ?_)
   refine c_cond rfl (fun hc21 => ?_) (fun hc21 => ?_)
   ·simp only [decide_eq_true_eq] at hc21
    refine c_region ?_
    refine o_as rfl rfl ?_
    refine o_nil (q_then (c_seq (c_region ?_)))
    refine o_as rfl rfl ?_
    refine o_nil (q_then (c_seq (c_seq (c_region ?_))))
    refine o_mv rfl rfl ?_
    refine o_p (p_len_string rfl rfl Try.underlying9) ?_
    refine o_p (p_gt rfl rfl) ?_
    refine o_mv rfl rfl ?_
    refine o_or (p := 98) 3 (decide (value < (-1099511627776))) ?_ ?_ ?_
    ·intro hb22 hk
     simp only [decide_eq_false_iff_not, Int.not_lt] at hb22
     refine o_unguard 95 rfl rfl ?_
     refine o_mv rfl rfl ?_
     refine o_unguard 95 rfl rfl ?_
     refine o_p (p_lt rfl rfl) ?_
     refine o_pf rfl rfl rfl ?_
     exact o_sub (sr (Sub.skip rfl (Sub.skip rfl (Sub.skip rfl (Sub.skip rfl (Sub.refl _)))))) hk
    ·intro hb22 hk
     refine o_guard_no rfl 95 rfl rfl rfl rfl rfl ?_
     refine o_guard_no rfl 95 rfl rfl rfl rfl rfl ?_
     refine o_pt rfl rfl rfl ?_
     exact o_sub (sr (Sub.skip rfl (Sub.skip rfl (Sub.skip rfl (Sub.skip rfl (Sub.refl _)))))) hk
    refine o_mv rfl rfl ?_
    refine o_or (p := 102) 3 (decide (1099511627776 < value)) ?_ ?_ ?_
    ·intro hb23 hk
     simp only [Bool.or_eq_false_iff, decide_eq_false_iff_not, Int.not_lt] at hb23
     refine o_unguard 99 rfl rfl ?_
     refine o_mv rfl rfl ?_
     refine o_unguard 99 rfl rfl ?_
     refine o_p (p_gt rfl rfl) ?_
     refine o_pf rfl rfl rfl ?_
     exact o_sub (sr (Sub.skip rfl (Sub.skip rfl (Sub.skip rfl (Sub.skip rfl (Sub.refl _)))))) hk
    ·intro hb23 hk
     refine o_guard_no rfl 99 rfl rfl rfl rfl rfl ?_
     refine o_guard_no rfl 99 rfl rfl rfl rfl rfl ?_
     refine o_pt rfl rfl rfl ?_
     exact o_sub (sr (Sub.skip rfl (Sub.skip rfl (Sub.skip rfl (Sub.skip rfl (Sub.refl _)))))) hk
    refine o_nil (q_then ?_)
    refine c_cond rfl (fun hc24 => ?_) (fun hc24 => ?_)
    ·simp only [Bool.or_eq_true, decide_eq_true_eq] at hc24
     refine c_region ?_
     refine o_as rfl rfl ?_
     refine o_nil (q_then (c_seq (c_region ?_)))
     refine o_mv rfl rfl ?_
     refine o_p (p_lt rfl rfl) ?_
     refine o_mv rfl rfl ?_
     refine o_or (p := 117) 3 (decide (64 < slots)) ?_ ?_ ?_
     ·intro hb25 hk
      simp only [decide_eq_false_iff_not, Int.not_lt] at hb25
      refine o_unguard 114 rfl rfl ?_
      refine o_mv rfl rfl ?_
      refine o_unguard 114 rfl rfl ?_
      refine o_p (p_gt rfl rfl) ?_
      refine o_pf rfl rfl rfl ?_
      exact o_sub (sr (Sub.skip rfl (Sub.skip rfl (Sub.skip rfl (Sub.skip rfl (Sub.refl _)))))) hk
     ·intro hb25 hk
      refine o_guard_no rfl 114 rfl rfl rfl rfl rfl ?_
      refine o_guard_no rfl 114 rfl rfl rfl rfl rfl ?_
      refine o_pt rfl rfl rfl ?_
      exact o_sub (sr (Sub.skip rfl (Sub.skip rfl (Sub.skip rfl (Sub.skip rfl (Sub.refl _)))))) hk
     refine o_nil (q_then ?_)
     refine c_cond rfl (fun hc26 => ?_) (fun hc26 => ?_)
     ·simp only [Bool.or_eq_true, decide_eq_true_eq] at hc26
      refine c_region ?_
      refine o_as rfl rfl ?_
      refine o_nil ?_
      refine q_join hK19 (3, 3, 3, 0, 0, ([] : List DSlot), none, 0, (fun _ => False), ([] : List DSlot), none, 0, (fun _ => False), ([] : List DSlot), none, 0, (fun _ => False)) ?_ (sr (sr (sr (sr (sr (sr (sr (sr (sr (sr (sr (sr (sr (sr (sr (sr (sr (sr (sr (Sub.nil _)))))))))))))))))))) (pk [0, 1, 2, 3, 4, 5, 6])
      clear hK19
      refine ⟨?_, ?_, ?_⟩
      ·first | exact Tab.s_v0 key hck | exact Tab.s_v1 hck (by omega) | exact Tab.s_v2 hck (by omega) (by omega) | exact Tab.s_v3 hck (by omega) (by omega)
      ·first | exact Tab.s_u0 key value hck | exact Tab.s_u1 hck (by omega) | exact Tab.s_u2 hck (by omega) (by omega) | exact Tab.s_u3 hck (by omega) (by omega)
      ·first | exact Tab.s_o0 slots hck | exact Tab.s_o1 hck (by omega) | exact hI.done hck (by omega) (by omega)
     ·simp only [Bool.or_eq_false_iff, decide_eq_false_iff_not, Int.not_lt] at hc26
      refine c_seq (c_region ?_)
      refine o_mv rfl rfl ?_
      refine o_makeSlice (T := tSlot) (m := slots) (z := (⟨false, ByteArray.empty, 0⟩ : DSlot)) rfl rfl Try.underlying22 el33 ze33 rfl (by decide) (by omega) (by omega) rfl (fun S28 a27 => ?_)
      refine o_as rfl rfl ?_
      refine o_nil (q_then (c_seq (c_region ?_)))
      refine o_as rfl rfl ?_
      refine o_nil (q_then (c_block ?_))
      refine c_heap (H' := [loose tSlot (False) S28 a27 slots.toNat (List.replicate slots.toNat (⟨false, ByteArray.empty, 0⟩ : DSlot)), loose tSlot (False) (fun _ => False) none 0 ([] : List DSlot), loose tSlot (False) (fun _ => False) none 0 ([] : List DSlot), loose tSlot (False) (fun _ => False) none 0 ([] : List DSlot), own tSlot S11 a13 c14 (Tab.sizeR tt slots), own tSlot S6 a8 c9 (Tab.delR tt key), own tSlot S1 a3 c4 (Tab.putR tt key value), base w0]) (fun w hw => HeapIs.toLoose (i := 0) (T := tSlot) rfl hw) ?_
      refine c_loop (St := Int × List DSlot × Option Addr × Nat × (Nat → Prop) × Nat)
       (fun ⟨o, grown, agrown, cgrown, Sgrown, i⟩ => [(0, .slice att tt.length ctt), (9, Vi (Tab.has tt key)), (10, Vi (Tab.looked tt key)), (11, Vi (Tab.keyErr tt key)), (12, .slice a3 (Tab.putR tt key value).length c4), (13, Vi (Tab.putErr tt key value)), (14, .slice a8 (Tab.delR tt key).length c9), (15, Vi (Tab.keyErr tt key)), (16, .slice a13 (Tab.sizeR tt slots).length c14), (17, Vi (Tab.sizeErr tt slots)), (18, Vi (Tab.check tt)), (19, Vi 3), (20, Vi 3), (21, Vi o), (22, Vi 0), (23, Vi 0), (24, .slice none ([] : List DSlot).length 0), (25, .slice none ([] : List DSlot).length 0), (26, .slice agrown grown.length cgrown), (29, Vi (i : Int))])
       (fun ⟨o, grown, agrown, cgrown, Sgrown, i⟩ => [loose tSlot (False) Sgrown agrown cgrown grown, loose tSlot (False) (fun _ => False) none 0 ([] : List DSlot), loose tSlot (False) (fun _ => False) none 0 ([] : List DSlot), loose tSlot (False) (fun _ => False) none 0 ([] : List DSlot), own tSlot S11 a13 c14 (Tab.sizeR tt slots), own tSlot S6 a8 c9 (Tab.delR tt key), own tSlot S1 a3 c4 (Tab.putR tt key value), base w0])
       (fun ⟨o, grown, agrown, cgrown, Sgrown, i⟩ => Tab.GI tt slots grown o i)
       (fun ⟨o, grown, agrown, cgrown, Sgrown, i⟩ => tt.length - i)
       ((Tab.check tt), (List.replicate slots.toNat (⟨false, ByteArray.empty, 0⟩ : DSlot)), a27, slots.toNat, S28, 0) ?_ (sr (sr (sr (sr (sr (sr (sr (sr (sr (sr (sr (sr (sr (sr (sr (sr (sr (sr (sr (sr (Sub.nil _))))))))))))))))))))) (fun _ hw => hw) ?_
      ·exact Tab.GI.start2 (by omega) (by omega)
      rintro ⟨o, grown, agrown, cgrown, Sgrown, i⟩ hI K hK30
      have hle := hI.le
      show SC _ _ Try.prog 205 w0 _ _ [(0, .slice att tt.length ctt), (9, Vi (Tab.has tt key)), (10, Vi (Tab.looked tt key)), (11, Vi (Tab.keyErr tt key)), (12, .slice a3 (Tab.putR tt key value).length c4), (13, Vi (Tab.putErr tt key value)), (14, .slice a8 (Tab.delR tt key).length c9), (15, Vi (Tab.keyErr tt key)), (16, .slice a13 (Tab.sizeR tt slots).length c14), (17, Vi (Tab.sizeErr tt slots)), (18, Vi (Tab.check tt)), (19, Vi 3), (20, Vi 3), (21, Vi o), (22, Vi 0), (23, Vi 0), (24, .slice none ([] : List DSlot).length 0), (25, .slice none ([] : List DSlot).length 0), (26, .slice agrown grown.length cgrown), (29, Vi (i : Int))] [loose tSlot (False) Sgrown agrown cgrown grown, loose tSlot (False) (fun _ => False) none 0 ([] : List DSlot), loose tSlot (False) (fun _ => False) none 0 ([] : List DSlot), loose tSlot (False) (fun _ => False) none 0 ([] : List DSlot), own tSlot S11 a13 c14 (Tab.sizeR tt slots), own tSlot S6 a8 c9 (Tab.delR tt key), own tSlot S1 a3 c4 (Tab.putR tt key value), base w0]
      refine c_seq (c_seq (c_region ?_))
      refine o_mv rfl rfl ?_
      refine o_mv rfl rfl ?_
      refine o_p (p_len_slice rfl rfl Try.underlying22) ?_
      refine o_p (p_lt rfl rfl) ?_
      refine o_mv rfl rfl ?_
      refine o_and (p := 127) 3 (o == 0) ?_ ?_ ?_
      ·intro hb31 hk
       simp only [decide_eq_true_eq] at hb31
       refine o_unguard 124 rfl rfl ?_
       refine o_mv rfl rfl ?_
       refine o_unguard 124 rfl rfl ?_
       refine o_p (p_eq rfl rfl) ?_
       refine o_pt rfl rfl rfl ?_
       exact o_sub (sr (Sub.skip rfl (Sub.skip rfl (Sub.skip rfl (Sub.skip rfl (Sub.refl _)))))) hk
      ·intro hb31 hk
       refine o_guard_no rfl 124 rfl rfl rfl rfl rfl ?_
       refine o_guard_no rfl 124 rfl rfl rfl rfl rfl ?_
       refine o_pf rfl rfl rfl ?_
       exact o_sub (sr (Sub.skip rfl (Sub.skip rfl (Sub.skip rfl (Sub.skip rfl (Sub.refl _)))))) hk
      refine o_nil (q_then ?_)
      refine c_cond rfl (fun hc32 => ?_) (fun hc32 => ?_)
      ·simp only [Bool.and_eq_true, decide_eq_true_eq, beq_iff_eq] at hc32
       refine c_skip (q_then (c_seq (c_block (c_seq (c_seq (c_region ?_))))))
       refine o_mv rfl rfl ?_
       refine o_mv rfl rfl ?_
       refine o_p (p_indexAddr (L := tt) (T := tSlot) (i := (i : Int)) rfl rfl (rd_base (i := 7) rfl htt) Try.underlying22 sz33 (by omega) (by omega)) ?_
       refine o_p (p_fieldAddrE rfl fo33_0) ?_
       refine o_p (p_loadF (i := i) (j := 0) (T := tSlot) (L := tt) (v := .bool ((tt.getD i default).used)) rfl (rd_base (i := 7) rfl htt) (by first | assumption | omega) sh4 (congrArg (fun z => (tSlot.enc z)[0]?) (getd_at (by first | assumption | omega) default))) ?_
       refine o_p (p_not (b := (tt.getD i default).used) rfl) ?_
       refine o_nil (q_then ?_)
       refine c_cond rfl (fun hc33 => ?_) (fun hc33 => ?_)
       ·simp only [Bool.not_eq_true'] at hc33
        have hu := hc33
        refine c_exit ?_
        refine q_then_exit (q_block_exit (q_then ?_))
        refine c_region ?_
        refine o_mv rfl rfl ?_
        refine o_p (p_addb rfl rfl (by omega)) ?_
        refine o_as rfl rfl ?_
        refine o_nil ?_
        refine q_round hK30 (o, grown, agrown, cgrown, Sgrown, i + 1) ?_ ?_ ?_ ?_
        ·clear hK30
         first | exact hI.skip2 (by omega) (by omega) hu | exact hI.add2 hTok (by omega) (by omega) hu (by simpa using hpt) | exact hI.full2 hck (by omega) (by omega) (by omega) hu (by simpa using hpt)
        ·(try dsimp only); omega
        ·exact sr (sr (sr (sr (sr (sr (sr (sr (sr (sr (sr (sr (sr (sr (sr (sr (sr (sr (sr (sr (Sub.nil _))))))))))))))))))))
        ·exact pk [0, 1, 2, 3, 4, 5, 6, 7]
       ·simp only [Bool.not_eq_false'] at hc33
        have hu := hc33
        refine c_skip (q_then (c_seq ?_))
        refine c_held hmix [loose tSlot (False) Sgrown agrown cgrown grown, loose tSlot (False) (fun _ => False) none 0 ([] : List DSlot), loose tSlot (False) (fun _ => False) none 0 ([] : List DSlot), loose tSlot (False) (fun _ => False) none 0 ([] : List DSlot), own tSlot S11 a13 c14 (Tab.sizeR tt slots), own tSlot S6 a8 c9 (Tab.delR tt key), own tSlot S1 a3 c4 (Tab.putR tt key value), base w0] rfl rfl ?_
        refine h_t0 (i := 0) (ls := #[T1,F0,F0,F0,F0,F0,F0,F0,F0,F0,F0,F0,F0,F0,F0,F0,F0]) rfl (p_move rfl) ?_
        refine h_t0 (i := 1) (ls := #[T1,T1,F0,F0,F0,F0,F0,F0,F0,F0,F0,F0,F0,F0,F0,F0,F0]) rfl (p_move rfl) ?_
        refine h_t0 (i := 2) (ls := #[T1,T1,T1,F0,F0,F0,F0,F0,F0,F0,F0,F0,F0,F0,F0,F0,F0]) rfl (p_move rfl) ?_
        refine h_t0 (i := 3) (ls := #[T1,T1,T1,T1,F0,F0,F0,F0,F0,F0,F0,F0,F0,F0,F0,F0,F0]) rfl (p_indexAddr (L := tt) (T := tSlot) (i := (i : Int)) rfl rfl (rd_base (i := 7) rfl htt) Try.underlying22 sz33 (by omega) (by omega)) ?_
        refine h_t0 (i := 4) (ls := #[T1,T1,T1,T1,T1,F0,F0,F0,F0,F0,F0,F0,F0,F0,F0,F0,F0]) rfl (p_fieldAddrE rfl fo33_1) ?_
        refine h_t0 (i := 5) (ls := #[T1,T1,T1,T1,T1,T1,F0,F0,F0,F0,F0,F0,F0,F0,F0,F0,F0]) rfl (p_loadF (i := i) (j := 1) (T := tSlot) (L := tt) (v := .string ((tt.getD i default).key)) rfl (rd_base (i := 7) rfl htt) (by first | assumption | omega) sh9 (congrArg (fun z => (tSlot.enc z)[1]?) (getd_at (by first | assumption | omega) default))) ?_
        refine h_t0 (i := 6) (ls := #[T1,T1,T1,T1,T1,T1,T1,F0,F0,F0,F0,F0,F0,F0,F0,F0,F0]) rfl (p_move rfl) ?_
        refine h_t0 (i := 7) (ls := #[T1,T1,T1,T1,T1,T1,T1,T1,F0,F0,F0,F0,F0,F0,F0,F0,F0]) rfl (p_move rfl) ?_
        refine h_t0 (i := 8) (ls := #[T1,T1,T1,T1,T1,T1,T1,T1,T1,F0,F0,F0,F0,F0,F0,F0,F0]) rfl (p_indexAddr (L := tt) (T := tSlot) (i := (i : Int)) rfl rfl (rd_base (i := 7) rfl htt) Try.underlying22 sz33 (by omega) (by omega)) ?_
        refine h_t0 (i := 9) (ls := #[T1,T1,T1,T1,T1,T1,T1,T1,T1,T1,F0,F0,F0,F0,F0,F0,F0]) rfl (p_fieldAddrE rfl fo33_2) ?_
        refine h_t0 (i := 10) (ls := #[T1,T1,T1,T1,T1,T1,T1,T1,T1,T1,T1,F0,F0,F0,F0,F0,F0]) rfl (p_loadF (i := i) (j := 2) (T := tSlot) (L := tt) (v := Vi ((tt.getD i default).value)) rfl (rd_base (i := 7) rfl htt) (by first | assumption | omega) sh3 (congrArg (fun z => (tSlot.enc z)[2]?) (getd_at (by first | assumption | omega) default))) ?_
        refine h_one (i := 11) (ls := #[T1,T1,T1,T1,T1,T1,T1,T1,T1,T1,T1,T1,F0,F0,F0,F0,F0]) (by kernel_rfl) rfl rfl ?_
        refine o_callM rfl (tablePut_ok grown agrown cgrown ((tt.getD i default).key) ((tt.getD i default).value) (by first | assumption | exact ⟨hTok, by omega⟩ | exact ⟨hI.ok (by omega), Tab.key_le (Tab.ck_go hck) (by omega)⟩)) hf23 (fun w hw => (rd_loose (i := 0) rfl (fun hφ => hφ.elim)) w hw) rfl (fun _ _ _ _ ha hA => SlO.agree ha hA) ?_
        rintro ⟨a34_11, c34_11⟩ S34_11
        refine o_know (fun w hw => own_len (i := 0) (T := tSlot) hw rfl) (fun hlr34_11 => ?_)
        refine o_nil ?_
        refine h_next (dp (lz (lj (lj (lj (lj (lj (lj (lj (lj (ln))))))))))) ?_
        refine h_tk (i := 12) (ls := #[T1,T1,T1,T1,T1,T1,T1,T1,T1,T1,T1,T1,T1,F0,F0,F0,F0]) rfl (p_move rfl) (dp (lz (lj (lj (lj (lj (lj (lj (lj (lj (ln))))))))))) ?_
        refine h_tk (i := 13) (ls := #[T1,T1,T1,T1,T1,T1,T1,T1,T1,T1,T1,T1,T1,T1,F0,F0,F0]) rfl (p_extract rfl rfl) (dp (lz (lj (lj (lj (lj (lj (lj (lj (lj (ln))))))))))) ?_
        refine h_tk (i := 14) (ls := #[T1,T1,T1,T1,T1,T1,T1,T1,T1,T1,T1,T1,T1,T1,T1,F0,F0]) rfl (p_extract rfl rfl) (dp (lz (lj (lj (lj (lj (lj (lj (lj (lj (ln))))))))))) ?_
        refine h_tk (i := 15) (ls := #[T1,T1,T1,T1,T1,T1,T1,T1,T1,T1,T1,T1,T1,T1,T1,T1,F0]) rfl (p_assign rfl) (dp (lz (lj (lj (lj (lj (lj (lj (lj (lj (ln))))))))))) ?_
        refine h_tk (i := 16) (ls := #[T1,T1,T1,T1,T1,T1,T1,T1,T1,T1,T1,T1,T1,T1,T1,T1,T1]) rfl (p_assign rfl) (dp (lz (lj (lj (lj (lj (lj (lj (lj (lj (ln))))))))))) ?_
        refine h_done (by kernel_rfl) ?_
        refine q_then (c_seq (c_region ?_))
        refine o_mv rfl rfl ?_
        refine o_p (p_not (b := (!decide (Tab.putAt grown ((tt.getD i default).key) < 0))) rfl) ?_
        refine o_nil (q_then ?_)
        refine c_cond rfl (fun hc35 => ?_) (fun hc35 => ?_)
        ·simp only [Bool.not_eq_true', Bool.not_eq_false', decide_eq_true_eq] at hc35
         have hpt := hc35
         refine c_region ?_
         refine o_as rfl rfl ?_
         refine o_nil ?_
         refine q_block_normal (q_then ?_)
         refine c_region ?_
         refine o_mv rfl rfl ?_
         refine o_p (p_addb rfl rfl (by omega)) ?_
         refine o_as rfl rfl ?_
         refine o_nil ?_
         refine q_heap (H' := [loose tSlot (False) S34_11 a34_11 c34_11 (Tab.putT grown ((tt.getD i default).key) ((tt.getD i default).value)), loose tSlot (False) Sgrown agrown cgrown grown, loose tSlot (False) (fun _ => False) none 0 ([] : List DSlot), loose tSlot (False) (fun _ => False) none 0 ([] : List DSlot), loose tSlot (False) (fun _ => False) none 0 ([] : List DSlot), own tSlot S11 a13 c14 (Tab.sizeR tt slots), own tSlot S6 a8 c9 (Tab.delR tt key), own tSlot S1 a3 c4 (Tab.putR tt key value), base w0]) (fun w hw => HeapIs.toLoose (i := 0) (T := tSlot) rfl hw) ?_
         refine q_round hK30 (8, (Tab.putT grown ((tt.getD i default).key) ((tt.getD i default).value)), a34_11, c34_11, S34_11, i + 1) ?_ ?_ ?_ ?_
         ·clear hK30
          first | exact hI.skip2 (by omega) (by omega) hu | exact hI.add2 hTok (by omega) (by omega) hu (by simpa using hpt) | exact hI.full2 hck (by omega) (by omega) (by omega) hu (by simpa using hpt)
         ·(try dsimp only); omega
         ·exact sr (sr (sr (sr (sr (sr (sr (sr (sr (sr (sr (sr (sr (sr (sr (sr (sr (sr (sr (sr (Sub.nil _))))))))))))))))))))
         ·exact pk [0, 2, 3, 4, 5, 6, 7, 8]
        ·simp only [Bool.not_eq_false', Bool.not_eq_true', decide_eq_false_iff_not, Int.not_lt] at hc35
         have hpt := hc35
         refine c_skip ?_
         refine q_block_normal (q_then ?_)
         refine c_region ?_
         refine o_mv rfl rfl ?_
         refine o_p (p_addb rfl rfl (by omega)) ?_
         refine o_as rfl rfl ?_
         refine o_nil ?_
         refine q_heap (H' := [loose tSlot (False) S34_11 a34_11 c34_11 (Tab.putT grown ((tt.getD i default).key) ((tt.getD i default).value)), loose tSlot (False) Sgrown agrown cgrown grown, loose tSlot (False) (fun _ => False) none 0 ([] : List DSlot), loose tSlot (False) (fun _ => False) none 0 ([] : List DSlot), loose tSlot (False) (fun _ => False) none 0 ([] : List DSlot), own tSlot S11 a13 c14 (Tab.sizeR tt slots), own tSlot S6 a8 c9 (Tab.delR tt key), own tSlot S1 a3 c4 (Tab.putR tt key value), base w0]) (fun w hw => HeapIs.toLoose (i := 0) (T := tSlot) rfl hw) ?_
         refine q_round hK30 (o, (Tab.putT grown ((tt.getD i default).key) ((tt.getD i default).value)), a34_11, c34_11, S34_11, i + 1) ?_ ?_ ?_ ?_
         ·clear hK30
          first | exact hI.skip2 (by omega) (by omega) hu | exact hI.add2 hTok (by omega) (by omega) hu (by simpa using hpt) | exact hI.full2 hck (by omega) (by omega) (by omega) hu (by simpa using hpt)
         ·(try dsimp only); omega
         ·exact sr (sr (sr (sr (sr (sr (sr (sr (sr (sr (sr (sr (sr (sr (sr (sr (sr (sr (sr (sr (Sub.nil _))))))))))))))))))))
         ·exact pk [0, 2, 3, 4, 5, 6, 7, 8]
      ·simp only [Bool.and_eq_false_iff, decide_eq_false_iff_not, Int.not_lt, beq_eq_false_iff_ne, ne_eq] at hc32
       refine c_exit ?_
       refine q_then_exit (q_then_exit (q_block_exit ?_))
       refine q_join hK19 (3, 3, o, 0, 0, ([] : List DSlot), none, 0, (fun _ => False), ([] : List DSlot), none, 0, (fun _ => False), grown, agrown, cgrown, Sgrown) ?_ (sr (sr (sr (sr (sr (sr (sr (sr (sr (sr (sr (sr (sr (sr (sr (sr (sr (sr (sr (Sub.nil _)))))))))))))))))))) (pk [0, 2, 3, 4, 5, 6, 7])
       clear hK19
       refine ⟨?_, ?_, ?_⟩
       ·first | exact Tab.s_v0 key hck | exact Tab.s_v1 hck (by omega) | exact Tab.s_v2 hck (by omega) (by omega) | exact Tab.s_v3 hck (by omega) (by omega)
       ·first | exact Tab.s_u0 key value hck | exact Tab.s_u1 hck (by omega) | exact Tab.s_u2 hck (by omega) (by omega) | exact Tab.s_u3 hck (by omega) (by omega)
       ·first | exact Tab.s_o0 slots hck | exact Tab.s_o1 hck (by omega) | exact hI.done hck (by omega) (by omega)
    ·simp only [Bool.or_eq_false_iff, decide_eq_false_iff_not, Int.not_lt] at hc24
     refine c_seq (c_region ?_)
     refine o_mv rfl rfl ?_
     refine o_mv rfl rfl ?_
     refine o_mv rfl rfl ?_
     refine o_callM rfl (tablePut_ok tt att ctt key value (by first | assumption | exact ⟨hTok, by omega⟩ | exact ⟨hI.ok (by omega), Tab.key_le (Tab.ck_go hck) (by omega)⟩)) hf23 (fun w hw => (rd_base (i := 6) rfl htt) w hw) rfl (fun _ _ _ _ ha hA => SlO.agree ha hA) ?_
     rintro ⟨a38, c39⟩ S36
     refine o_know (fun w hw => own_len (i := 0) (T := tSlot) hw rfl) (fun hlr40 => ?_)
     refine o_mv rfl rfl ?_
     refine o_ex rfl rfl rfl ?_
     refine o_ex rfl rfl rfl ?_
     refine o_as rfl rfl ?_
     refine o_as rfl rfl ?_
     refine o_nil (q_then (c_seq (c_region ?_)))
     refine o_mv rfl rfl ?_
     refine o_p (p_not (b := (!decide (Tab.putAt tt key < 0))) rfl) ?_
     refine o_nil (q_then ?_)
     refine c_cond rfl (fun hc41 => ?_) (fun hc41 => ?_)
     ·simp only [Bool.not_eq_true', Bool.not_eq_false', decide_eq_true_eq] at hc41
      have hpt := hc41
      refine c_region ?_
      refine o_as rfl rfl ?_
      refine o_nil (q_then (c_seq (c_region ?_)))
      refine o_mv rfl rfl ?_
      refine o_p (p_lt rfl rfl) ?_
      refine o_mv rfl rfl ?_
      refine o_or (p := 117) 3 (decide (64 < slots)) ?_ ?_ ?_
      ·intro hb42 hk
       simp only [decide_eq_false_iff_not, Int.not_lt] at hb42
       refine o_unguard 114 rfl rfl ?_
       refine o_mv rfl rfl ?_
       refine o_unguard 114 rfl rfl ?_
       refine o_p (p_gt rfl rfl) ?_
       refine o_pf rfl rfl rfl ?_
       exact o_sub (sr (Sub.skip rfl (Sub.skip rfl (Sub.skip rfl (Sub.skip rfl (Sub.refl _)))))) hk
      ·intro hb42 hk
       refine o_guard_no rfl 114 rfl rfl rfl rfl rfl ?_
       refine o_guard_no rfl 114 rfl rfl rfl rfl rfl ?_
       refine o_pt rfl rfl rfl ?_
       exact o_sub (sr (Sub.skip rfl (Sub.skip rfl (Sub.skip rfl (Sub.skip rfl (Sub.refl _)))))) hk
      refine o_nil (q_then ?_)
      refine c_cond rfl (fun hc43 => ?_) (fun hc43 => ?_)
      ·simp only [Bool.or_eq_true, decide_eq_true_eq] at hc43
       refine c_region ?_
       refine o_as rfl rfl ?_
       refine o_nil ?_
       refine q_heap (H' := [loose tSlot (False) S36 a38 c39 (Tab.putT tt key value), loose tSlot (False) (fun _ => False) none 0 ([] : List DSlot), loose tSlot (False) (fun _ => False) none 0 ([] : List DSlot), loose tSlot (False) (fun _ => False) none 0 ([] : List DSlot), own tSlot S11 a13 c14 (Tab.sizeR tt slots), own tSlot S6 a8 c9 (Tab.delR tt key), own tSlot S1 a3 c4 (Tab.putR tt key value), base w0]) (fun w hw => HeapIs.toLoose (i := 0) (T := tSlot) rfl hw) ?_
       refine q_join hK19 (3, 8, 3, 0, 0, (Tab.putT tt key value), a38, c39, S36, ([] : List DSlot), none, 0, (fun _ => False), ([] : List DSlot), none, 0, (fun _ => False)) ?_ (sr (sr (sr (sr (sr (sr (sr (sr (sr (sr (sr (sr (sr (sr (sr (sr (sr (sr (sr (Sub.nil _)))))))))))))))))))) (pk [1, 2, 0, 4, 5, 6, 7])
       clear hK19
       refine ⟨?_, ?_, ?_⟩
       ·first | exact Tab.s_v0 key hck | exact Tab.s_v1 hck (by omega) | exact Tab.s_v2 hck (by omega) (by omega) | exact Tab.s_v3 hck (by omega) (by omega)
       ·first | exact Tab.s_u0 key value hck | exact Tab.s_u1 hck (by omega) | exact Tab.s_u2 hck (by omega) (by omega) | exact Tab.s_u3 hck (by omega) (by omega)
       ·first | exact Tab.s_o0 slots hck | exact Tab.s_o1 hck (by omega) | exact hI.done hck (by omega) (by omega)
      ·simp only [Bool.or_eq_false_iff, decide_eq_false_iff_not, Int.not_lt] at hc43
       refine c_seq (c_region ?_)
       refine o_mv rfl rfl ?_
       refine o_makeSlice (T := tSlot) (m := slots) (z := (⟨false, ByteArray.empty, 0⟩ : DSlot)) rfl rfl Try.underlying22 el33 ze33 rfl (by decide) (by omega) (by omega) rfl (fun S45 a44 => ?_)
       refine o_as rfl rfl ?_
       refine o_nil (q_then (c_seq (c_region ?_)))
       refine o_as rfl rfl ?_
       refine o_nil (q_then (c_block ?_))
       refine c_heap (H' := [loose tSlot (False) S45 a44 slots.toNat (List.replicate slots.toNat (⟨false, ByteArray.empty, 0⟩ : DSlot)), own tSlot S36 a38 c39 (Tab.putT tt key value), loose tSlot (False) (fun _ => False) none 0 ([] : List DSlot), loose tSlot (False) (fun _ => False) none 0 ([] : List DSlot), loose tSlot (False) (fun _ => False) none 0 ([] : List DSlot), own tSlot S11 a13 c14 (Tab.sizeR tt slots), own tSlot S6 a8 c9 (Tab.delR tt key), own tSlot S1 a3 c4 (Tab.putR tt key value), base w0]) (fun w hw => HeapIs.toLoose (i := 0) (T := tSlot) rfl hw) ?_
       refine c_loop (St := Int × List DSlot × Option Addr × Nat × (Nat → Prop) × Nat)
        (fun ⟨o, grown, agrown, cgrown, Sgrown, i⟩ => [(0, .slice att tt.length ctt), (9, Vi (Tab.has tt key)), (10, Vi (Tab.looked tt key)), (11, Vi (Tab.keyErr tt key)), (12, .slice a3 (Tab.putR tt key value).length c4), (13, Vi (Tab.putErr tt key value)), (14, .slice a8 (Tab.delR tt key).length c9), (15, Vi (Tab.keyErr tt key)), (16, .slice a13 (Tab.sizeR tt slots).length c14), (17, Vi (Tab.sizeErr tt slots)), (18, Vi (Tab.check tt)), (19, Vi 3), (20, Vi 8), (21, Vi o), (22, Vi 0), (23, Vi 0), (24, .slice a38 (Tab.putT tt key value).length c39), (25, .slice none ([] : List DSlot).length 0), (26, .slice agrown grown.length cgrown), (29, Vi (i : Int))])
        (fun ⟨o, grown, agrown, cgrown, Sgrown, i⟩ => [loose tSlot (False) Sgrown agrown cgrown grown, own tSlot S36 a38 c39 (Tab.putT tt key value), loose tSlot (False) (fun _ => False) none 0 ([] : List DSlot), loose tSlot (False) (fun _ => False) none 0 ([] : List DSlot), loose tSlot (False) (fun _ => False) none 0 ([] : List DSlot), own tSlot S11 a13 c14 (Tab.sizeR tt slots), own tSlot S6 a8 c9 (Tab.delR tt key), own tSlot S1 a3 c4 (Tab.putR tt key value), base w0])
        (fun ⟨o, grown, agrown, cgrown, Sgrown, i⟩ => Tab.GI tt slots grown o i)
        (fun ⟨o, grown, agrown, cgrown, Sgrown, i⟩ => tt.length - i)
        ((Tab.check tt), (List.replicate slots.toNat (⟨false, ByteArray.empty, 0⟩ : DSlot)), a44, slots.toNat, S45, 0) ?_ (sr (sr (sr (sr (sr (sr (sr (sr (sr (sr (sr (sr (sr (sr (sr (sr (sr (sr (sr (sr (Sub.nil _))))))))))))))))))))) (fun _ hw => hw) ?_
       ·exact Tab.GI.start2 (by omega) (by omega)
       rintro ⟨o, grown, agrown, cgrown, Sgrown, i⟩ hI K hK47
       have hle := hI.le
       show SC _ _ Try.prog 205 w0 _ _ [(0, .slice att tt.length ctt), (9, Vi (Tab.has tt key)), (10, Vi (Tab.looked tt key)), (11, Vi (Tab.keyErr tt key)), (12, .slice a3 (Tab.putR tt key value).length c4), (13, Vi (Tab.putErr tt key value)), (14, .slice a8 (Tab.delR tt key).length c9), (15, Vi (Tab.keyErr tt key)), (16, .slice a13 (Tab.sizeR tt slots).length c14), (17, Vi (Tab.sizeErr tt slots)), (18, Vi (Tab.check tt)), (19, Vi 3), (20, Vi 8), (21, Vi o), (22, Vi 0), (23, Vi 0), (24, .slice a38 (Tab.putT tt key value).length c39), (25, .slice none ([] : List DSlot).length 0), (26, .slice agrown grown.length cgrown), (29, Vi (i : Int))] [loose tSlot (False) Sgrown agrown cgrown grown, own tSlot S36 a38 c39 (Tab.putT tt key value), loose tSlot (False) (fun _ => False) none 0 ([] : List DSlot), loose tSlot (False) (fun _ => False) none 0 ([] : List DSlot), loose tSlot (False) (fun _ => False) none 0 ([] : List DSlot), own tSlot S11 a13 c14 (Tab.sizeR tt slots), own tSlot S6 a8 c9 (Tab.delR tt key), own tSlot S1 a3 c4 (Tab.putR tt key value), base w0]
       refine c_seq (c_seq (c_region ?_))
       refine o_mv rfl rfl ?_
       refine o_mv rfl rfl ?_
       refine o_p (p_len_slice rfl rfl Try.underlying22) ?_
       refine o_p (p_lt rfl rfl) ?_
       refine o_mv rfl rfl ?_
       refine o_and (p := 127) 3 (o == 0) ?_ ?_ ?_
       ·intro hb48 hk
        simp only [decide_eq_true_eq] at hb48
        refine o_unguard 124 rfl rfl ?_
        refine o_mv rfl rfl ?_
        refine o_unguard 124 rfl rfl ?_
        refine o_p (p_eq rfl rfl) ?_
        refine o_pt rfl rfl rfl ?_
        exact o_sub (sr (Sub.skip rfl (Sub.skip rfl (Sub.skip rfl (Sub.skip rfl (Sub.refl _)))))) hk
       ·intro hb48 hk
        refine o_guard_no rfl 124 rfl rfl rfl rfl rfl ?_
        refine o_guard_no rfl 124 rfl rfl rfl rfl rfl ?_
        refine o_pf rfl rfl rfl ?_
        exact o_sub (sr (Sub.skip rfl (Sub.skip rfl (Sub.skip rfl (Sub.skip rfl (Sub.refl _)))))) hk
       refine o_nil (q_then ?_)
       refine c_cond rfl (fun hc49 => ?_) (fun hc49 => ?_)
       ·simp only [Bool.and_eq_true, decide_eq_true_eq, beq_iff_eq] at hc49
        refine c_skip (q_then (c_seq (c_block (c_seq (c_seq (c_region ?_))))))
        refine o_mv rfl rfl ?_
        refine o_mv rfl rfl ?_
        refine o_p (p_indexAddr (L := tt) (T := tSlot) (i := (i : Int)) rfl rfl (rd_base (i := 8) rfl htt) Try.underlying22 sz33 (by omega) (by omega)) ?_
        refine o_p (p_fieldAddrE rfl fo33_0) ?_
        refine o_p (p_loadF (i := i) (j := 0) (T := tSlot) (L := tt) (v := .bool ((tt.getD i default).used)) rfl (rd_base (i := 8) rfl htt) (by first | assumption | omega) sh4 (congrArg (fun z => (tSlot.enc z)[0]?) (getd_at (by first | assumption | omega) default))) ?_
        refine o_p (p_not (b := (tt.getD i default).used) rfl) ?_
        refine o_nil (q_then ?_)
        refine c_cond rfl (fun hc50 => ?_) (fun hc50 => ?_)
        ·simp only [Bool.not_eq_true'] at hc50
         have hu := hc50
         refine c_exit ?_
         refine q_then_exit (q_block_exit (q_then ?_))
         refine c_region ?_
         refine o_mv rfl rfl ?_
         refine o_p (p_addb rfl rfl (by omega)) ?_
         refine o_as rfl rfl ?_
         refine o_nil ?_
         refine q_round hK47 (o, grown, agrown, cgrown, Sgrown, i + 1) ?_ ?_ ?_ ?_
         ·clear hK47
          first | exact hI.skip2 (by omega) (by omega) hu | exact hI.add2 hTok (by omega) (by omega) hu (by simpa using hpt) | exact hI.full2 hck (by omega) (by omega) (by omega) hu (by simpa using hpt)
         ·(try dsimp only); omega
         ·exact sr (sr (sr (sr (sr (sr (sr (sr (sr (sr (sr (sr (sr (sr (sr (sr (sr (sr (sr (sr (Sub.nil _))))))))))))))))))))
         ·exact pk [0, 1, 2, 3, 4, 5, 6, 7, 8]
        ·simp only [Bool.not_eq_false'] at hc50
         have hu := hc50
         refine c_skip (q_then (c_seq ?_))
         refine c_held hmix [loose tSlot (False) Sgrown agrown cgrown grown, own tSlot S36 a38 c39 (Tab.putT tt key value), loose tSlot (False) (fun _ => False) none 0 ([] : List DSlot), loose tSlot (False) (fun _ => False) none 0 ([] : List DSlot), loose tSlot (False) (fun _ => False) none 0 ([] : List DSlot), own tSlot S11 a13 c14 (Tab.sizeR tt slots), own tSlot S6 a8 c9 (Tab.delR tt key), own tSlot S1 a3 c4 (Tab.putR tt key value), base w0] rfl rfl ?_
         refine h_t0 (i := 0) (ls := #[T1,F0,F0,F0,F0,F0,F0,F0,F0,F0,F0,F0,F0,F0,F0,F0,F0]) rfl (p_move rfl) ?_
         refine h_t0 (i := 1) (ls := #[T1,T1,F0,F0,F0,F0,F0,F0,F0,F0,F0,F0,F0,F0,F0,F0,F0]) rfl (p_move rfl) ?_
         refine h_t0 (i := 2) (ls := #[T1,T1,T1,F0,F0,F0,F0,F0,F0,F0,F0,F0,F0,F0,F0,F0,F0]) rfl (p_move rfl) ?_
         refine h_t0 (i := 3) (ls := #[T1,T1,T1,T1,F0,F0,F0,F0,F0,F0,F0,F0,F0,F0,F0,F0,F0]) rfl (p_indexAddr (L := tt) (T := tSlot) (i := (i : Int)) rfl rfl (rd_base (i := 8) rfl htt) Try.underlying22 sz33 (by omega) (by omega)) ?_
         refine h_t0 (i := 4) (ls := #[T1,T1,T1,T1,T1,F0,F0,F0,F0,F0,F0,F0,F0,F0,F0,F0,F0]) rfl (p_fieldAddrE rfl fo33_1) ?_
         refine h_t0 (i := 5) (ls := #[T1,T1,T1,T1,T1,T1,F0,F0,F0,F0,F0,F0,F0,F0,F0,F0,F0]) rfl (p_loadF (i := i) (j := 1) (T := tSlot) (L := tt) (v := .string ((tt.getD i default).key)) rfl (rd_base (i := 8) rfl htt) (by first | assumption | omega) sh9 (congrArg (fun z => (tSlot.enc z)[1]?) (getd_at (by first | assumption | omega) default))) ?_
         refine h_t0 (i := 6) (ls := #[T1,T1,T1,T1,T1,T1,T1,F0,F0,F0,F0,F0,F0,F0,F0,F0,F0]) rfl (p_move rfl) ?_
         refine h_t0 (i := 7) (ls := #[T1,T1,T1,T1,T1,T1,T1,T1,F0,F0,F0,F0,F0,F0,F0,F0,F0]) rfl (p_move rfl) ?_
         refine h_t0 (i := 8) (ls := #[T1,T1,T1,T1,T1,T1,T1,T1,T1,F0,F0,F0,F0,F0,F0,F0,F0]) rfl (p_indexAddr (L := tt) (T := tSlot) (i := (i : Int)) rfl rfl (rd_base (i := 8) rfl htt) Try.underlying22 sz33 (by omega) (by omega)) ?_
         refine h_t0 (i := 9) (ls := #[T1,T1,T1,T1,T1,T1,T1,T1,T1,T1,F0,F0,F0,F0,F0,F0,F0]) rfl (p_fieldAddrE rfl fo33_2) ?_
         refine h_t0 (i := 10) (ls := #[T1,T1,T1,T1,T1,T1,T1,T1,T1,T1,T1,F0,F0,F0,F0,F0,F0]) rfl (p_loadF (i := i) (j := 2) (T := tSlot) (L := tt) (v := Vi ((tt.getD i default).value)) rfl (rd_base (i := 8) rfl htt) (by first | assumption | omega) sh3 (congrArg (fun z => (tSlot.enc z)[2]?) (getd_at (by first | assumption | omega) default))) ?_
         refine h_one (i := 11) (ls := #[T1,T1,T1,T1,T1,T1,T1,T1,T1,T1,T1,T1,F0,F0,F0,F0,F0]) (by kernel_rfl) rfl rfl ?_
         refine o_callM rfl (tablePut_ok grown agrown cgrown ((tt.getD i default).key) ((tt.getD i default).value) (by first | assumption | exact ⟨hTok, by omega⟩ | exact ⟨hI.ok (by omega), Tab.key_le (Tab.ck_go hck) (by omega)⟩)) hf23 (fun w hw => (rd_loose (i := 0) rfl (fun hφ => hφ.elim)) w hw) rfl (fun _ _ _ _ ha hA => SlO.agree ha hA) ?_
         rintro ⟨a51_11, c51_11⟩ S51_11
         refine o_know (fun w hw => own_len (i := 0) (T := tSlot) hw rfl) (fun hlr51_11 => ?_)
         refine o_nil ?_
         refine h_next (dp (lz (lj (lj (lj (lj (lj (lj (lj (lj (lj (ln)))))))))))) ?_
         refine h_tk (i := 12) (ls := #[T1,T1,T1,T1,T1,T1,T1,T1,T1,T1,T1,T1,T1,F0,F0,F0,F0]) rfl (p_move rfl) (dp (lz (lj (lj (lj (lj (lj (lj (lj (lj (lj (ln)))))))))))) ?_
         refine h_tk (i := 13) (ls := #[T1,T1,T1,T1,T1,T1,T1,T1,T1,T1,T1,T1,T1,T1,F0,F0,F0]) rfl (p_extract rfl rfl) (dp (lz (lj (lj (lj (lj (lj (lj (lj (lj (lj (ln)))))))))))) ?_
         refine h_tk (i := 14) (ls := #[T1,T1,T1,T1,T1,T1,T1,T1,T1,T1,T1,T1,T1,T1,T1,F0,F0]) rfl (p_extract rfl rfl) (dp (lz (lj (lj (lj (lj (lj (lj (lj (lj (lj (ln)))))))))))) ?_
         refine h_tk (i := 15) (ls := #[T1,T1,T1,T1,T1,T1,T1,T1,T1,T1,T1,T1,T1,T1,T1,T1,F0]) rfl (p_assign rfl) (dp (lz (lj (lj (lj (lj (lj (lj (lj (lj (lj (ln)))))))))))) ?_
         refine h_tk (i := 16) (ls := #[T1,T1,T1,T1,T1,T1,T1,T1,T1,T1,T1,T1,T1,T1,T1,T1,T1]) rfl (p_assign rfl) (dp (lz (lj (lj (lj (lj (lj (lj (lj (lj (lj (ln)))))))))))) ?_
         refine h_done (by kernel_rfl) ?_
         refine q_then (c_seq (c_region ?_))
         refine o_mv rfl rfl ?_
         refine o_p (p_not (b := (!decide (Tab.putAt grown ((tt.getD i default).key) < 0))) rfl) ?_
         refine o_nil (q_then ?_)
         refine c_cond rfl (fun hc52 => ?_) (fun hc52 => ?_)
         ·simp only [Bool.not_eq_true', Bool.not_eq_false', decide_eq_true_eq] at hc52
          have hpt := hc52
          refine c_region ?_
          refine o_as rfl rfl ?_
          refine o_nil ?_
          refine q_block_normal (q_then ?_)
          refine c_region ?_
          refine o_mv rfl rfl ?_
          refine o_p (p_addb rfl rfl (by omega)) ?_
          refine o_as rfl rfl ?_
          refine o_nil ?_
          refine q_heap (H' := [loose tSlot (False) S51_11 a51_11 c51_11 (Tab.putT grown ((tt.getD i default).key) ((tt.getD i default).value)), loose tSlot (False) Sgrown agrown cgrown grown, own tSlot S36 a38 c39 (Tab.putT tt key value), loose tSlot (False) (fun _ => False) none 0 ([] : List DSlot), loose tSlot (False) (fun _ => False) none 0 ([] : List DSlot), loose tSlot (False) (fun _ => False) none 0 ([] : List DSlot), own tSlot S11 a13 c14 (Tab.sizeR tt slots), own tSlot S6 a8 c9 (Tab.delR tt key), own tSlot S1 a3 c4 (Tab.putR tt key value), base w0]) (fun w hw => HeapIs.toLoose (i := 0) (T := tSlot) rfl hw) ?_
          refine q_round hK47 (8, (Tab.putT grown ((tt.getD i default).key) ((tt.getD i default).value)), a51_11, c51_11, S51_11, i + 1) ?_ ?_ ?_ ?_
          ·clear hK47
           first | exact hI.skip2 (by omega) (by omega) hu | exact hI.add2 hTok (by omega) (by omega) hu (by simpa using hpt) | exact hI.full2 hck (by omega) (by omega) (by omega) hu (by simpa using hpt)
          ·(try dsimp only); omega
          ·exact sr (sr (sr (sr (sr (sr (sr (sr (sr (sr (sr (sr (sr (sr (sr (sr (sr (sr (sr (sr (Sub.nil _))))))))))))))))))))
          ·exact pk [0, 2, 3, 4, 5, 6, 7, 8, 9]
         ·simp only [Bool.not_eq_false', Bool.not_eq_true', decide_eq_false_iff_not, Int.not_lt] at hc52
          have hpt := hc52
          refine c_skip ?_
          refine q_block_normal (q_then ?_)
          refine c_region ?_
          refine o_mv rfl rfl ?_
          refine o_p (p_addb rfl rfl (by omega)) ?_
          refine o_as rfl rfl ?_
          refine o_nil ?_
          refine q_heap (H' := [loose tSlot (False) S51_11 a51_11 c51_11 (Tab.putT grown ((tt.getD i default).key) ((tt.getD i default).value)), loose tSlot (False) Sgrown agrown cgrown grown, own tSlot S36 a38 c39 (Tab.putT tt key value), loose tSlot (False) (fun _ => False) none 0 ([] : List DSlot), loose tSlot (False) (fun _ => False) none 0 ([] : List DSlot), loose tSlot (False) (fun _ => False) none 0 ([] : List DSlot), own tSlot S11 a13 c14 (Tab.sizeR tt slots), own tSlot S6 a8 c9 (Tab.delR tt key), own tSlot S1 a3 c4 (Tab.putR tt key value), base w0]) (fun w hw => HeapIs.toLoose (i := 0) (T := tSlot) rfl hw) ?_
          refine q_round hK47 (o, (Tab.putT grown ((tt.getD i default).key) ((tt.getD i default).value)), a51_11, c51_11, S51_11, i + 1) ?_ ?_ ?_ ?_
          ·clear hK47
           first | exact hI.skip2 (by omega) (by omega) hu | exact hI.add2 hTok (by omega) (by omega) hu (by simpa using hpt) | exact hI.full2 hck (by omega) (by omega) (by omega) hu (by simpa using hpt)
          ·(try dsimp only); omega
          ·exact sr (sr (sr (sr (sr (sr (sr (sr (sr (sr (sr (sr (sr (sr (sr (sr (sr (sr (sr (sr (Sub.nil _))))))))))))))))))))
          ·exact pk [0, 2, 3, 4, 5, 6, 7, 8, 9]
       ·simp only [Bool.and_eq_false_iff, decide_eq_false_iff_not, Int.not_lt, beq_eq_false_iff_ne, ne_eq] at hc49
        refine c_exit ?_
        refine q_then_exit (q_then_exit (q_block_exit ?_))
        refine q_heap (H' := [loose tSlot (False) Sgrown agrown cgrown grown, loose tSlot (False) S36 a38 c39 (Tab.putT tt key value), loose tSlot (False) (fun _ => False) none 0 ([] : List DSlot), loose tSlot (False) (fun _ => False) none 0 ([] : List DSlot), loose tSlot (False) (fun _ => False) none 0 ([] : List DSlot), own tSlot S11 a13 c14 (Tab.sizeR tt slots), own tSlot S6 a8 c9 (Tab.delR tt key), own tSlot S1 a3 c4 (Tab.putR tt key value), base w0]) (fun w hw => HeapIs.toLoose (i := 1) (T := tSlot) rfl hw) ?_
        refine q_join hK19 (3, 8, o, 0, 0, (Tab.putT tt key value), a38, c39, S36, ([] : List DSlot), none, 0, (fun _ => False), grown, agrown, cgrown, Sgrown) ?_ (sr (sr (sr (sr (sr (sr (sr (sr (sr (sr (sr (sr (sr (sr (sr (sr (sr (sr (sr (Sub.nil _)))))))))))))))))))) (pk [0, 3, 1, 5, 6, 7, 8])
        clear hK19
        refine ⟨?_, ?_, ?_⟩
        ·first | exact Tab.s_v0 key hck | exact Tab.s_v1 hck (by omega) | exact Tab.s_v2 hck (by omega) (by omega) | exact Tab.s_v3 hck (by omega) (by omega)
        ·first | exact Tab.s_u0 key value hck | exact Tab.s_u1 hck (by omega) | exact Tab.s_u2 hck (by omega) (by omega) | exact Tab.s_u3 hck (by omega) (by omega)
        ·first | exact Tab.s_o0 slots hck | exact Tab.s_o1 hck (by omega) | exact hI.done hck (by omega) (by omega)
     ·simp only [Bool.not_eq_false', Bool.not_eq_true', decide_eq_false_iff_not, Int.not_lt] at hc41
      have hpt := hc41
      refine c_skip (q_then (c_seq (c_region ?_)))
      refine o_mv rfl rfl ?_
      refine o_p (p_lt rfl rfl) ?_
      refine o_mv rfl rfl ?_
      refine o_or (p := 117) 3 (decide (64 < slots)) ?_ ?_ ?_
      ·intro hb53 hk
       simp only [decide_eq_false_iff_not, Int.not_lt] at hb53
       refine o_unguard 114 rfl rfl ?_
       refine o_mv rfl rfl ?_
       refine o_unguard 114 rfl rfl ?_
       refine o_p (p_gt rfl rfl) ?_
       refine o_pf rfl rfl rfl ?_
       exact o_sub (sr (Sub.skip rfl (Sub.skip rfl (Sub.skip rfl (Sub.skip rfl (Sub.refl _)))))) hk
      ·intro hb53 hk
       refine o_guard_no rfl 114 rfl rfl rfl rfl rfl ?_
       refine o_guard_no rfl 114 rfl rfl rfl rfl rfl ?_
       refine o_pt rfl rfl rfl ?_
       exact o_sub (sr (Sub.skip rfl (Sub.skip rfl (Sub.skip rfl (Sub.skip rfl (Sub.refl _)))))) hk
      refine o_nil (q_then ?_)
      refine c_cond rfl (fun hc54 => ?_) (fun hc54 => ?_)
      ·simp only [Bool.or_eq_true, decide_eq_true_eq] at hc54
       refine c_region ?_
       refine o_as rfl rfl ?_
       refine o_nil ?_
       refine q_heap (H' := [loose tSlot (False) S36 a38 c39 (Tab.putT tt key value), loose tSlot (False) (fun _ => False) none 0 ([] : List DSlot), loose tSlot (False) (fun _ => False) none 0 ([] : List DSlot), loose tSlot (False) (fun _ => False) none 0 ([] : List DSlot), own tSlot S11 a13 c14 (Tab.sizeR tt slots), own tSlot S6 a8 c9 (Tab.delR tt key), own tSlot S1 a3 c4 (Tab.putR tt key value), base w0]) (fun w hw => HeapIs.toLoose (i := 0) (T := tSlot) rfl hw) ?_
       refine q_join hK19 (3, (Tab.check tt), 3, 0, 0, (Tab.putT tt key value), a38, c39, S36, ([] : List DSlot), none, 0, (fun _ => False), ([] : List DSlot), none, 0, (fun _ => False)) ?_ (sr (sr (sr (sr (sr (sr (sr (sr (sr (sr (sr (sr (sr (sr (sr (sr (sr (sr (sr (Sub.nil _)))))))))))))))))))) (pk [1, 2, 0, 4, 5, 6, 7])
       clear hK19
       refine ⟨?_, ?_, ?_⟩
       ·first | exact Tab.s_v0 key hck | exact Tab.s_v1 hck (by omega) | exact Tab.s_v2 hck (by omega) (by omega) | exact Tab.s_v3 hck (by omega) (by omega)
       ·first | exact Tab.s_u0 key value hck | exact Tab.s_u1 hck (by omega) | exact Tab.s_u2 hck (by omega) (by omega) | exact Tab.s_u3 hck (by omega) (by omega)
       ·first | exact Tab.s_o0 slots hck | exact Tab.s_o1 hck (by omega) | exact hI.done hck (by omega) (by omega)
      ·simp only [Bool.or_eq_false_iff, decide_eq_false_iff_not, Int.not_lt] at hc54
       refine c_seq (c_region ?_)
       refine o_mv rfl rfl ?_
       refine o_makeSlice (T := tSlot) (m := slots) (z := (⟨false, ByteArray.empty, 0⟩ : DSlot)) rfl rfl Try.underlying22 el33 ze33 rfl (by decide) (by omega) (by omega) rfl (fun S56 a55 => ?_)
       refine o_as rfl rfl ?_
       refine o_nil (q_then (c_seq (c_region ?_)))
       refine o_as rfl rfl ?_
       refine o_nil (q_then (c_block ?_))
       refine c_heap (H' := [loose tSlot (False) S56 a55 slots.toNat (List.replicate slots.toNat (⟨false, ByteArray.empty, 0⟩ : DSlot)), own tSlot S36 a38 c39 (Tab.putT tt key value), loose tSlot (False) (fun _ => False) none 0 ([] : List DSlot), loose tSlot (False) (fun _ => False) none 0 ([] : List DSlot), loose tSlot (False) (fun _ => False) none 0 ([] : List DSlot), own tSlot S11 a13 c14 (Tab.sizeR tt slots), own tSlot S6 a8 c9 (Tab.delR tt key), own tSlot S1 a3 c4 (Tab.putR tt key value), base w0]) (fun w hw => HeapIs.toLoose (i := 0) (T := tSlot) rfl hw) ?_
       refine c_loop (St := Int × List DSlot × Option Addr × Nat × (Nat → Prop) × Nat)
        (fun ⟨o, grown, agrown, cgrown, Sgrown, i⟩ => [(0, .slice att tt.length ctt), (9, Vi (Tab.has tt key)), (10, Vi (Tab.looked tt key)), (11, Vi (Tab.keyErr tt key)), (12, .slice a3 (Tab.putR tt key value).length c4), (13, Vi (Tab.putErr tt key value)), (14, .slice a8 (Tab.delR tt key).length c9), (15, Vi (Tab.keyErr tt key)), (16, .slice a13 (Tab.sizeR tt slots).length c14), (17, Vi (Tab.sizeErr tt slots)), (18, Vi (Tab.check tt)), (19, Vi 3), (20, Vi (Tab.check tt)), (21, Vi o), (22, Vi 0), (23, Vi 0), (24, .slice a38 (Tab.putT tt key value).length c39), (25, .slice none ([] : List DSlot).length 0), (26, .slice agrown grown.length cgrown), (29, Vi (i : Int))])
        (fun ⟨o, grown, agrown, cgrown, Sgrown, i⟩ => [loose tSlot (False) Sgrown agrown cgrown grown, own tSlot S36 a38 c39 (Tab.putT tt key value), loose tSlot (False) (fun _ => False) none 0 ([] : List DSlot), loose tSlot (False) (fun _ => False) none 0 ([] : List DSlot), loose tSlot (False) (fun _ => False) none 0 ([] : List DSlot), own tSlot S11 a13 c14 (Tab.sizeR tt slots), own tSlot S6 a8 c9 (Tab.delR tt key), own tSlot S1 a3 c4 (Tab.putR tt key value), base w0])
        (fun ⟨o, grown, agrown, cgrown, Sgrown, i⟩ => Tab.GI tt slots grown o i)
        (fun ⟨o, grown, agrown, cgrown, Sgrown, i⟩ => tt.length - i)
        ((Tab.check tt), (List.replicate slots.toNat (⟨false, ByteArray.empty, 0⟩ : DSlot)), a55, slots.toNat, S56, 0) ?_ (sr (sr (sr (sr (sr (sr (sr (sr (sr (sr (sr (sr (sr (sr (sr (sr (sr (sr (sr (sr (Sub.nil _))))))))))))))))))))) (fun _ hw => hw) ?_
       ·exact Tab.GI.start2 (by omega) (by omega)
       rintro ⟨o, grown, agrown, cgrown, Sgrown, i⟩ hI K hK58
       have hle := hI.le
       show SC _ _ Try.prog 205 w0 _ _ [(0, .slice att tt.length ctt), (9, Vi (Tab.has tt key)), (10, Vi (Tab.looked tt key)), (11, Vi (Tab.keyErr tt key)), (12, .slice a3 (Tab.putR tt key value).length c4), (13, Vi (Tab.putErr tt key value)), (14, .slice a8 (Tab.delR tt key).length c9), (15, Vi (Tab.keyErr tt key)), (16, .slice a13 (Tab.sizeR tt slots).length c14), (17, Vi (Tab.sizeErr tt slots)), (18, Vi (Tab.check tt)), (19, Vi 3), (20, Vi (Tab.check tt)), (21, Vi o), (22, Vi 0), (23, Vi 0), (24, .slice a38 (Tab.putT tt key value).length c39), (25, .slice none ([] : List DSlot).length 0), (26, .slice agrown grown.length cgrown), (29, Vi (i : Int))] [loose tSlot (False) Sgrown agrown cgrown grown, own tSlot S36 a38 c39 (Tab.putT tt key value), loose tSlot (False) (fun _ => False) none 0 ([] : List DSlot), loose tSlot (False) (fun _ => False) none 0 ([] : List DSlot), loose tSlot (False) (fun _ => False) none 0 ([] : List DSlot), own tSlot S11 a13 c14 (Tab.sizeR tt slots), own tSlot S6 a8 c9 (Tab.delR tt key), own tSlot S1 a3 c4 (Tab.putR tt key value), base w0]
       refine c_seq (c_seq (c_region ?_))
       refine o_mv rfl rfl ?_
       refine o_mv rfl rfl ?_
       refine o_p (p_len_slice rfl rfl Try.underlying22) ?_
       refine o_p (p_lt rfl rfl) ?_
       refine o_mv rfl rfl ?_
       refine o_and (p := 127) 3 (o == 0) ?_ ?_ ?_
       ·intro hb59 hk
        simp only [decide_eq_true_eq] at hb59
        refine o_unguard 124 rfl rfl ?_
        refine o_mv rfl rfl ?_
        refine o_unguard 124 rfl rfl ?_
        refine o_p (p_eq rfl rfl) ?_
        refine o_pt rfl rfl rfl ?_
        exact o_sub (sr (Sub.skip rfl (Sub.skip rfl (Sub.skip rfl (Sub.skip rfl (Sub.refl _)))))) hk
       ·intro hb59 hk
        refine o_guard_no rfl 124 rfl rfl rfl rfl rfl ?_
        refine o_guard_no rfl 124 rfl rfl rfl rfl rfl ?_
        refine o_pf rfl rfl rfl ?_
        exact o_sub (sr (Sub.skip rfl (Sub.skip rfl (Sub.skip rfl (Sub.skip rfl (Sub.refl _)))))) hk
       refine o_nil (q_then ?_)
       refine c_cond rfl (fun hc60 => ?_) (fun hc60 => ?_)
       ·simp only [Bool.and_eq_true, decide_eq_true_eq, beq_iff_eq] at hc60
        refine c_skip (q_then (c_seq (c_block (c_seq (c_seq (c_region ?_))))))
        refine o_mv rfl rfl ?_
        refine o_mv rfl rfl ?_
        refine o_p (p_indexAddr (L := tt) (T := tSlot) (i := (i : Int)) rfl rfl (rd_base (i := 8) rfl htt) Try.underlying22 sz33 (by omega) (by omega)) ?_
        refine o_p (p_fieldAddrE rfl fo33_0) ?_
        refine o_p (p_loadF (i := i) (j := 0) (T := tSlot) (L := tt) (v := .bool ((tt.getD i default).used)) rfl (rd_base (i := 8) rfl htt) (by first | assumption | omega) sh4 (congrArg (fun z => (tSlot.enc z)[0]?) (getd_at (by first | assumption | omega) default))) ?_
        refine o_p (p_not (b := (tt.getD i default).used) rfl) ?_
        refine o_nil (q_then ?_)
        refine c_cond rfl (fun hc61 => ?_) (fun hc61 => ?_)
        ·simp only [Bool.not_eq_true'] at hc61
         have hu := hc61
         refine c_exit ?_
         refine q_then_exit (q_block_exit (q_then ?_))
         refine c_region ?_
         refine o_mv rfl rfl ?_
         refine o_p (p_addb rfl rfl (by omega)) ?_
         refine o_as rfl rfl ?_
         refine o_nil ?_
         refine q_round hK58 (o, grown, agrown, cgrown, Sgrown, i + 1) ?_ ?_ ?_ ?_
         ·clear hK58
          first | exact hI.skip2 (by omega) (by omega) hu | exact hI.add2 hTok (by omega) (by omega) hu (by simpa using hpt) | exact hI.full2 hck (by omega) (by omega) (by omega) hu (by simpa using hpt)
         ·(try dsimp only); omega
         ·exact sr (sr (sr (sr (sr (sr (sr (sr (sr (sr (sr (sr (sr (sr (sr (sr (sr (sr (sr (sr (Sub.nil _))))))))))))))))))))
         ·exact pk [0, 1, 2, 3, 4, 5, 6, 7, 8]
        ·simp only [Bool.not_eq_false'] at hc61
         have hu := hc61
         refine c_skip (q_then (c_seq ?_))
         refine c_held hmix [loose tSlot (False) Sgrown agrown cgrown grown, own tSlot S36 a38 c39 (Tab.putT tt key value), loose tSlot (False) (fun _ => False) none 0 ([] : List DSlot), loose tSlot (False) (fun _ => False) none 0 ([] : List DSlot), loose tSlot (False) (fun _ => False) none 0 ([] : List DSlot), own tSlot S11 a13 c14 (Tab.sizeR tt slots), own tSlot S6 a8 c9 (Tab.delR tt key), own tSlot S1 a3 c4 (Tab.putR tt key value), base w0] rfl rfl ?_
         refine h_t0 (i := 0) (ls := #[T1,F0,F0,F0,F0,F0,F0,F0,F0,F0,F0,F0,F0,F0,F0,F0,F0]) rfl (p_move rfl) ?_
         refine h_t0 (i := 1) (ls := #[T1,T1,F0,F0,F0,F0,F0,F0,F0,F0,F0,F0,F0,F0,F0,F0,F0]) rfl (p_move rfl) ?_
         refine h_t0 (i := 2) (ls := #[T1,T1,T1,F0,F0,F0,F0,F0,F0,F0,F0,F0,F0,F0,F0,F0,F0]) rfl (p_move rfl) ?_
         refine h_t0 (i := 3) (ls := #[T1,T1,T1,T1,F0,F0,F0,F0,F0,F0,F0,F0,F0,F0,F0,F0,F0]) rfl (p_indexAddr (L := tt) (T := tSlot) (i := (i : Int)) rfl rfl (rd_base (i := 8) rfl htt) Try.underlying22 sz33 (by omega) (by omega)) ?_
         refine h_t0 (i := 4) (ls := #[T1,T1,T1,T1,T1,F0,F0,F0,F0,F0,F0,F0,F0,F0,F0,F0,F0]) rfl (p_fieldAddrE rfl fo33_1) ?_
         refine h_t0 (i := 5) (ls := #[T1,T1,T1,T1,T1,T1,F0,F0,F0,F0,F0,F0,F0,F0,F0,F0,F0]) rfl (p_loadF (i := i) (j := 1) (T := tSlot) (L := tt) (v := .string ((tt.getD i default).key)) rfl (rd_base (i := 8) rfl htt) (by first | assumption | omega) sh9 (congrArg (fun z => (tSlot.enc z)[1]?) (getd_at (by first | assumption | omega) default))) ?_
         refine h_t0 (i := 6) (ls := #[T1,T1,T1,T1,T1,T1,T1,F0,F0,F0,F0,F0,F0,F0,F0,F0,F0]) rfl (p_move rfl) ?_
         refine h_t0 (i := 7) (ls := #[T1,T1,T1,T1,T1,T1,T1,T1,F0,F0,F0,F0,F0,F0,F0,F0,F0]) rfl (p_move rfl) ?_
         refine h_t0 (i := 8) (ls := #[T1,T1,T1,T1,T1,T1,T1,T1,T1,F0,F0,F0,F0,F0,F0,F0,F0]) rfl (p_indexAddr (L := tt) (T := tSlot) (i := (i : Int)) rfl rfl (rd_base (i := 8) rfl htt) Try.underlying22 sz33 (by omega) (by omega)) ?_
         refine h_t0 (i := 9) (ls := #[T1,T1,T1,T1,T1,T1,T1,T1,T1,T1,F0,F0,F0,F0,F0,F0,F0]) rfl (p_fieldAddrE rfl fo33_2) ?_
         refine h_t0 (i := 10) (ls := #[T1,T1,T1,T1,T1,T1,T1,T1,T1,T1,T1,F0,F0,F0,F0,F0,F0]) rfl (p_loadF (i := i) (j := 2) (T := tSlot) (L := tt) (v := Vi ((tt.getD i default).value)) rfl (rd_base (i := 8) rfl htt) (by first | assumption | omega) sh3 (congrArg (fun z => (tSlot.enc z)[2]?) (getd_at (by first | assumption | omega) default))) ?_
         refine h_one (i := 11) (ls := #[T1,T1,T1,T1,T1,T1,T1,T1,T1,T1,T1,T1,F0,F0,F0,F0,F0]) (by kernel_rfl) rfl rfl ?_
         refine o_callM rfl (tablePut_ok grown agrown cgrown ((tt.getD i default).key) ((tt.getD i default).value) (by first | assumption | exact ⟨hTok, by omega⟩ | exact ⟨hI.ok (by omega), Tab.key_le (Tab.ck_go hck) (by omega)⟩)) hf23 (fun w hw => (rd_loose (i := 0) rfl (fun hφ => hφ.elim)) w hw) rfl (fun _ _ _ _ ha hA => SlO.agree ha hA) ?_
         rintro ⟨a62_11, c62_11⟩ S62_11
         refine o_know (fun w hw => own_len (i := 0) (T := tSlot) hw rfl) (fun hlr62_11 => ?_)
         refine o_nil ?_
         refine h_next (dp (lz (lj (lj (lj (lj (lj (lj (lj (lj (lj (ln)))))))))))) ?_
         refine h_tk (i := 12) (ls := #[T1,T1,T1,T1,T1,T1,T1,T1,T1,T1,T1,T1,T1,F0,F0,F0,F0]) rfl (p_move rfl) (dp (lz (lj (lj (lj (lj (lj (lj (lj (lj (lj (ln)))))))))))) ?_
         refine h_tk (i := 13) (ls := #[T1,T1,T1,T1,T1,T1,T1,T1,T1,T1,T1,T1,T1,T1,F0,F0,F0]) rfl (p_extract rfl rfl) (dp (lz (lj (lj (lj (lj (lj (lj (lj (lj (lj (ln)))))))))))) ?_
         refine h_tk (i := 14) (ls := #[T1,T1,T1,T1,T1,T1,T1,T1,T1,T1,T1,T1,T1,T1,T1,F0,F0]) rfl (p_extract rfl rfl) (dp (lz (lj (lj (lj (lj (lj (lj (lj (lj (lj (ln)))))))))))) ?_
         refine h_tk (i := 15) (ls := #[T1,T1,T1,T1,T1,T1,T1,T1,T1,T1,T1,T1,T1,T1,T1,T1,F0]) rfl (p_assign rfl) (dp (lz (lj (lj (lj (lj (lj (lj (lj (lj (lj (ln)))))))))))) ?_
         refine h_tk (i := 16) (ls := #[T1,T1,T1,T1,T1,T1,T1,T1,T1,T1,T1,T1,T1,T1,T1,T1,T1]) rfl (p_assign rfl) (dp (lz (lj (lj (lj (lj (lj (lj (lj (lj (lj (ln)))))))))))) ?_
         refine h_done (by kernel_rfl) ?_
         refine q_then (c_seq (c_region ?_))
         refine o_mv rfl rfl ?_
         refine o_p (p_not (b := (!decide (Tab.putAt grown ((tt.getD i default).key) < 0))) rfl) ?_
         refine o_nil (q_then ?_)
         refine c_cond rfl (fun hc63 => ?_) (fun hc63 => ?_)
         ·simp only [Bool.not_eq_true', Bool.not_eq_false', decide_eq_true_eq] at hc63
          have hpt := hc63
          refine c_region ?_
          refine o_as rfl rfl ?_
          refine o_nil ?_
          refine q_block_normal (q_then ?_)
          refine c_region ?_
          refine o_mv rfl rfl ?_
          refine o_p (p_addb rfl rfl (by omega)) ?_
          refine o_as rfl rfl ?_
          refine o_nil ?_
          refine q_heap (H' := [loose tSlot (False) S62_11 a62_11 c62_11 (Tab.putT grown ((tt.getD i default).key) ((tt.getD i default).value)), loose tSlot (False) Sgrown agrown cgrown grown, own tSlot S36 a38 c39 (Tab.putT tt key value), loose tSlot (False) (fun _ => False) none 0 ([] : List DSlot), loose tSlot (False) (fun _ => False) none 0 ([] : List DSlot), loose tSlot (False) (fun _ => False) none 0 ([] : List DSlot), own tSlot S11 a13 c14 (Tab.sizeR tt slots), own tSlot S6 a8 c9 (Tab.delR tt key), own tSlot S1 a3 c4 (Tab.putR tt key value), base w0]) (fun w hw => HeapIs.toLoose (i := 0) (T := tSlot) rfl hw) ?_
          refine q_round hK58 (8, (Tab.putT grown ((tt.getD i default).key) ((tt.getD i default).value)), a62_11, c62_11, S62_11, i + 1) ?_ ?_ ?_ ?_
          ·clear hK58
           first | exact hI.skip2 (by omega) (by omega) hu | exact hI.add2 hTok (by omega) (by omega) hu (by simpa using hpt) | exact hI.full2 hck (by omega) (by omega) (by omega) hu (by simpa using hpt)
          ·(try dsimp only); omega
          ·exact sr (sr (sr (sr (sr (sr (sr (sr (sr (sr (sr (sr (sr (sr (sr (sr (sr (sr (sr (sr (Sub.nil _))))))))))))))))))))
          ·exact pk [0, 2, 3, 4, 5, 6, 7, 8, 9]
         ·simp only [Bool.not_eq_false', Bool.not_eq_true', decide_eq_false_iff_not, Int.not_lt] at hc63
          have hpt := hc63
          refine c_skip ?_
          refine q_block_normal (q_then ?_)
          refine c_region ?_
          refine o_mv rfl rfl ?_
          refine o_p (p_addb rfl rfl (by omega)) ?_
          refine o_as rfl rfl ?_
          refine o_nil ?_
          refine q_heap (H' := [loose tSlot (False) S62_11 a62_11 c62_11 (Tab.putT grown ((tt.getD i default).key) ((tt.getD i default).value)), loose tSlot (False) Sgrown agrown cgrown grown, own tSlot S36 a38 c39 (Tab.putT tt key value), loose tSlot (False) (fun _ => False) none 0 ([] : List DSlot), loose tSlot (False) (fun _ => False) none 0 ([] : List DSlot), loose tSlot (False) (fun _ => False) none 0 ([] : List DSlot), own tSlot S11 a13 c14 (Tab.sizeR tt slots), own tSlot S6 a8 c9 (Tab.delR tt key), own tSlot S1 a3 c4 (Tab.putR tt key value), base w0]) (fun w hw => HeapIs.toLoose (i := 0) (T := tSlot) rfl hw) ?_
          refine q_round hK58 (o, (Tab.putT grown ((tt.getD i default).key) ((tt.getD i default).value)), a62_11, c62_11, S62_11, i + 1) ?_ ?_ ?_ ?_
          ·clear hK58
           first | exact hI.skip2 (by omega) (by omega) hu | exact hI.add2 hTok (by omega) (by omega) hu (by simpa using hpt) | exact hI.full2 hck (by omega) (by omega) (by omega) hu (by simpa using hpt)
          ·(try dsimp only); omega
          ·exact sr (sr (sr (sr (sr (sr (sr (sr (sr (sr (sr (sr (sr (sr (sr (sr (sr (sr (sr (sr (Sub.nil _))))))))))))))))))))
          ·exact pk [0, 2, 3, 4, 5, 6, 7, 8, 9]
       ·simp only [Bool.and_eq_false_iff, decide_eq_false_iff_not, Int.not_lt, beq_eq_false_iff_ne, ne_eq] at hc60
        refine c_exit ?_
        refine q_then_exit (q_then_exit (q_block_exit ?_))
        refine q_heap (H' := [loose tSlot (False) Sgrown agrown cgrown grown, loose tSlot (False) S36 a38 c39 (Tab.putT tt key value), loose tSlot (False) (fun _ => False) none 0 ([] : List DSlot), loose tSlot (False) (fun _ => False) none 0 ([] : List DSlot), loose tSlot (False) (fun _ => False) none 0 ([] : List DSlot), own tSlot S11 a13 c14 (Tab.sizeR tt slots), own tSlot S6 a8 c9 (Tab.delR tt key), own tSlot S1 a3 c4 (Tab.putR tt key value), base w0]) (fun w hw => HeapIs.toLoose (i := 1) (T := tSlot) rfl hw) ?_
        refine q_join hK19 (3, (Tab.check tt), o, 0, 0, (Tab.putT tt key value), a38, c39, S36, ([] : List DSlot), none, 0, (fun _ => False), grown, agrown, cgrown, Sgrown) ?_ (sr (sr (sr (sr (sr (sr (sr (sr (sr (sr (sr (sr (sr (sr (sr (sr (sr (sr (sr (Sub.nil _)))))))))))))))))))) (pk [0, 3, 1, 5, 6, 7, 8])
        clear hK19
        refine ⟨?_, ?_, ?_⟩
        ·first | exact Tab.s_v0 key hck | exact Tab.s_v1 hck (by omega) | exact Tab.s_v2 hck (by omega) (by omega) | exact Tab.s_v3 hck (by omega) (by omega)
        ·first | exact Tab.s_u0 key value hck | exact Tab.s_u1 hck (by omega) | exact Tab.s_u2 hck (by omega) (by omega) | exact Tab.s_u3 hck (by omega) (by omega)
        ·first | exact Tab.s_o0 slots hck | exact Tab.s_o1 hck (by omega) | exact hI.done hck (by omega) (by omega)
   ·simp only [decide_eq_false_iff_not, Int.not_lt] at hc21
    refine c_seq (c_region ?_)
    refine o_mv rfl rfl ?_
    refine o_p (p_lt rfl rfl) ?_
    refine o_nil (q_then ?_)
    refine c_cond rfl (fun hc64 => ?_) (fun hc64 => ?_)
    ·simp only [decide_eq_true_eq] at hc64
     refine c_region ?_
     refine o_as rfl rfl ?_
     refine o_nil (q_then (c_seq (c_region ?_)))
     refine o_as rfl rfl ?_
     refine o_nil (q_then (c_seq (c_seq (c_region ?_))))
     refine o_mv rfl rfl ?_
     refine o_p (p_len_string rfl rfl Try.underlying9) ?_
     refine o_p (p_gt rfl rfl) ?_
     refine o_mv rfl rfl ?_
     refine o_or (p := 98) 3 (decide (value < (-1099511627776))) ?_ ?_ ?_
     ·intro hb65 hk
      simp only [decide_eq_false_iff_not, Int.not_lt] at hb65
      refine o_unguard 95 rfl rfl ?_
      refine o_mv rfl rfl ?_
      refine o_unguard 95 rfl rfl ?_
      refine o_p (p_lt rfl rfl) ?_
      refine o_pf rfl rfl rfl ?_
      exact o_sub (sr (Sub.skip rfl (Sub.skip rfl (Sub.skip rfl (Sub.skip rfl (Sub.refl _)))))) hk
     ·intro hb65 hk
      refine o_guard_no rfl 95 rfl rfl rfl rfl rfl ?_
      refine o_guard_no rfl 95 rfl rfl rfl rfl rfl ?_
      refine o_pt rfl rfl rfl ?_
      exact o_sub (sr (Sub.skip rfl (Sub.skip rfl (Sub.skip rfl (Sub.skip rfl (Sub.refl _)))))) hk
     refine o_mv rfl rfl ?_
     refine o_or (p := 102) 3 (decide (1099511627776 < value)) ?_ ?_ ?_
     ·intro hb66 hk
      simp only [Bool.or_eq_false_iff, decide_eq_false_iff_not, Int.not_lt] at hb66
      refine o_unguard 99 rfl rfl ?_
      refine o_mv rfl rfl ?_
      refine o_unguard 99 rfl rfl ?_
      refine o_p (p_gt rfl rfl) ?_
      refine o_pf rfl rfl rfl ?_
      exact o_sub (sr (Sub.skip rfl (Sub.skip rfl (Sub.skip rfl (Sub.skip rfl (Sub.refl _)))))) hk
     ·intro hb66 hk
      refine o_guard_no rfl 99 rfl rfl rfl rfl rfl ?_
      refine o_guard_no rfl 99 rfl rfl rfl rfl rfl ?_
      refine o_pt rfl rfl rfl ?_
      exact o_sub (sr (Sub.skip rfl (Sub.skip rfl (Sub.skip rfl (Sub.skip rfl (Sub.refl _)))))) hk
     refine o_nil (q_then ?_)
     refine c_cond rfl (fun hc67 => ?_) (fun hc67 => ?_)
     ·simp only [Bool.or_eq_true, decide_eq_true_eq] at hc67
      refine c_region ?_
      refine o_as rfl rfl ?_
      refine o_nil (q_then (c_seq (c_region ?_)))
      refine o_mv rfl rfl ?_
      refine o_p (p_lt rfl rfl) ?_
      refine o_mv rfl rfl ?_
      refine o_or (p := 117) 3 (decide (64 < slots)) ?_ ?_ ?_
      ·intro hb68 hk
       simp only [decide_eq_false_iff_not, Int.not_lt] at hb68
       refine o_unguard 114 rfl rfl ?_
       refine o_mv rfl rfl ?_
       refine o_unguard 114 rfl rfl ?_
       refine o_p (p_gt rfl rfl) ?_
       refine o_pf rfl rfl rfl ?_
       exact o_sub (sr (Sub.skip rfl (Sub.skip rfl (Sub.skip rfl (Sub.skip rfl (Sub.refl _)))))) hk
      ·intro hb68 hk
       refine o_guard_no rfl 114 rfl rfl rfl rfl rfl ?_
       refine o_guard_no rfl 114 rfl rfl rfl rfl rfl ?_
       refine o_pt rfl rfl rfl ?_
       exact o_sub (sr (Sub.skip rfl (Sub.skip rfl (Sub.skip rfl (Sub.skip rfl (Sub.refl _)))))) hk
      refine o_nil (q_then ?_)
      refine c_cond rfl (fun hc69 => ?_) (fun hc69 => ?_)
      ·simp only [Bool.or_eq_true, decide_eq_true_eq] at hc69
       refine c_region ?_
       refine o_as rfl rfl ?_
       refine o_nil ?_
       refine q_join hK19 (5, 3, 3, 0, 0, ([] : List DSlot), none, 0, (fun _ => False), ([] : List DSlot), none, 0, (fun _ => False), ([] : List DSlot), none, 0, (fun _ => False)) ?_ (sr (sr (sr (sr (sr (sr (sr (sr (sr (sr (sr (sr (sr (sr (sr (sr (sr (sr (sr (Sub.nil _)))))))))))))))))))) (pk [0, 1, 2, 3, 4, 5, 6])
       clear hK19
       refine ⟨?_, ?_, ?_⟩
       ·first | exact Tab.s_v0 key hck | exact Tab.s_v1 hck (by omega) | exact Tab.s_v2 hck (by omega) (by omega) | exact Tab.s_v3 hck (by omega) (by omega)
       ·first | exact Tab.s_u0 key value hck | exact Tab.s_u1 hck (by omega) | exact Tab.s_u2 hck (by omega) (by omega) | exact Tab.s_u3 hck (by omega) (by omega)
       ·first | exact Tab.s_o0 slots hck | exact Tab.s_o1 hck (by omega) | exact hI.done hck (by omega) (by omega)
      ·simp only [Bool.or_eq_false_iff, decide_eq_false_iff_not, Int.not_lt] at hc69
       refine c_seq (c_region ?_)
       refine o_mv rfl rfl ?_
       refine o_makeSlice (T := tSlot) (m := slots) (z := (⟨false, ByteArray.empty, 0⟩ : DSlot)) rfl rfl Try.underlying22 el33 ze33 rfl (by decide) (by omega) (by omega) rfl (fun S71 a70 => ?_)
       refine o_as rfl rfl ?_
       refine o_nil (q_then (c_seq (c_region ?_)))
       refine o_as rfl rfl ?_
       refine o_nil (q_then (c_block ?_))
       refine c_heap (H' := [loose tSlot (False) S71 a70 slots.toNat (List.replicate slots.toNat (⟨false, ByteArray.empty, 0⟩ : DSlot)), loose tSlot (False) (fun _ => False) none 0 ([] : List DSlot), loose tSlot (False) (fun _ => False) none 0 ([] : List DSlot), loose tSlot (False) (fun _ => False) none 0 ([] : List DSlot), own tSlot S11 a13 c14 (Tab.sizeR tt slots), own tSlot S6 a8 c9 (Tab.delR tt key), own tSlot S1 a3 c4 (Tab.putR tt key value), base w0]) (fun w hw => HeapIs.toLoose (i := 0) (T := tSlot) rfl hw) ?_
       refine c_loop (St := Int × List DSlot × Option Addr × Nat × (Nat → Prop) × Nat)
        (fun ⟨o, grown, agrown, cgrown, Sgrown, i⟩ => [(0, .slice att tt.length ctt), (9, Vi (Tab.has tt key)), (10, Vi (Tab.looked tt key)), (11, Vi (Tab.keyErr tt key)), (12, .slice a3 (Tab.putR tt key value).length c4), (13, Vi (Tab.putErr tt key value)), (14, .slice a8 (Tab.delR tt key).length c9), (15, Vi (Tab.keyErr tt key)), (16, .slice a13 (Tab.sizeR tt slots).length c14), (17, Vi (Tab.sizeErr tt slots)), (18, Vi (Tab.check tt)), (19, Vi 5), (20, Vi 3), (21, Vi o), (22, Vi 0), (23, Vi 0), (24, .slice none ([] : List DSlot).length 0), (25, .slice none ([] : List DSlot).length 0), (26, .slice agrown grown.length cgrown), (29, Vi (i : Int))])
        (fun ⟨o, grown, agrown, cgrown, Sgrown, i⟩ => [loose tSlot (False) Sgrown agrown cgrown grown, loose tSlot (False) (fun _ => False) none 0 ([] : List DSlot), loose tSlot (False) (fun _ => False) none 0 ([] : List DSlot), loose tSlot (False) (fun _ => False) none 0 ([] : List DSlot), own tSlot S11 a13 c14 (Tab.sizeR tt slots), own tSlot S6 a8 c9 (Tab.delR tt key), own tSlot S1 a3 c4 (Tab.putR tt key value), base w0])
        (fun ⟨o, grown, agrown, cgrown, Sgrown, i⟩ => Tab.GI tt slots grown o i)
        (fun ⟨o, grown, agrown, cgrown, Sgrown, i⟩ => tt.length - i)
        ((Tab.check tt), (List.replicate slots.toNat (⟨false, ByteArray.empty, 0⟩ : DSlot)), a70, slots.toNat, S71, 0) ?_ (sr (sr (sr (sr (sr (sr (sr (sr (sr (sr (sr (sr (sr (sr (sr (sr (sr (sr (sr (sr (Sub.nil _))))))))))))))))))))) (fun _ hw => hw) ?_
       ·exact Tab.GI.start2 (by omega) (by omega)
       rintro ⟨o, grown, agrown, cgrown, Sgrown, i⟩ hI K hK73
       have hle := hI.le
       show SC _ _ Try.prog 205 w0 _ _ [(0, .slice att tt.length ctt), (9, Vi (Tab.has tt key)), (10, Vi (Tab.looked tt key)), (11, Vi (Tab.keyErr tt key)), (12, .slice a3 (Tab.putR tt key value).length c4), (13, Vi (Tab.putErr tt key value)), (14, .slice a8 (Tab.delR tt key).length c9), (15, Vi (Tab.keyErr tt key)), (16, .slice a13 (Tab.sizeR tt slots).length c14), (17, Vi (Tab.sizeErr tt slots)), (18, Vi (Tab.check tt)), (19, Vi 5), (20, Vi 3), (21, Vi o), (22, Vi 0), (23, Vi 0), (24, .slice none ([] : List DSlot).length 0), (25, .slice none ([] : List DSlot).length 0), (26, .slice agrown grown.length cgrown), (29, Vi (i : Int))] [loose tSlot (False) Sgrown agrown cgrown grown, loose tSlot (False) (fun _ => False) none 0 ([] : List DSlot), loose tSlot (False) (fun _ => False) none 0 ([] : List DSlot), loose tSlot (False) (fun _ => False) none 0 ([] : List DSlot), own tSlot S11 a13 c14 (Tab.sizeR tt slots), own tSlot S6 a8 c9 (Tab.delR tt key), own tSlot S1 a3 c4 (Tab.putR tt key value), base w0]
       refine c_seq (c_seq (c_region ?_))
       refine o_mv rfl rfl ?_
       refine o_mv rfl rfl ?_
       refine o_p (p_len_slice rfl rfl Try.underlying22) ?_
       refine o_p (p_lt rfl rfl) ?_
       refine o_mv rfl rfl ?_
       refine o_and (p := 127) 3 (o == 0) ?_ ?_ ?_
       ·intro hb74 hk
        simp only [decide_eq_true_eq] at hb74
        refine o_unguard 124 rfl rfl ?_
        refine o_mv rfl rfl ?_
        refine o_unguard 124 rfl rfl ?_
        refine o_p (p_eq rfl rfl) ?_
        refine o_pt rfl rfl rfl ?_
        exact o_sub (sr (Sub.skip rfl (Sub.skip rfl (Sub.skip rfl (Sub.skip rfl (Sub.refl _)))))) hk
       ·intro hb74 hk
        refine o_guard_no rfl 124 rfl rfl rfl rfl rfl ?_
        refine o_guard_no rfl 124 rfl rfl rfl rfl rfl ?_
        refine o_pf rfl rfl rfl ?_
        exact o_sub (sr (Sub.skip rfl (Sub.skip rfl (Sub.skip rfl (Sub.skip rfl (Sub.refl _)))))) hk
       refine o_nil (q_then ?_)
       refine c_cond rfl (fun hc75 => ?_) (fun hc75 => ?_)
       ·simp only [Bool.and_eq_true, decide_eq_true_eq, beq_iff_eq] at hc75
        refine c_skip (q_then (c_seq (c_block (c_seq (c_seq (c_region ?_))))))
        refine o_mv rfl rfl ?_
        refine o_mv rfl rfl ?_
        refine o_p (p_indexAddr (L := tt) (T := tSlot) (i := (i : Int)) rfl rfl (rd_base (i := 7) rfl htt) Try.underlying22 sz33 (by omega) (by omega)) ?_
        refine o_p (p_fieldAddrE rfl fo33_0) ?_
        refine o_p (p_loadF (i := i) (j := 0) (T := tSlot) (L := tt) (v := .bool ((tt.getD i default).used)) rfl (rd_base (i := 7) rfl htt) (by first | assumption | omega) sh4 (congrArg (fun z => (tSlot.enc z)[0]?) (getd_at (by first | assumption | omega) default))) ?_
        refine o_p (p_not (b := (tt.getD i default).used) rfl) ?_
        refine o_nil (q_then ?_)
        refine c_cond rfl (fun hc76 => ?_) (fun hc76 => ?_)
        ·simp only [Bool.not_eq_true'] at hc76
         have hu := hc76
         refine c_exit ?_
         refine q_then_exit (q_block_exit (q_then ?_))
         refine c_region ?_
         refine o_mv rfl rfl ?_
         refine o_p (p_addb rfl rfl (by omega)) ?_
         refine o_as rfl rfl ?_
         refine o_nil ?_
         refine q_round hK73 (o, grown, agrown, cgrown, Sgrown, i + 1) ?_ ?_ ?_ ?_
         ·clear hK73
          first | exact hI.skip2 (by omega) (by omega) hu | exact hI.add2 hTok (by omega) (by omega) hu (by simpa using hpt) | exact hI.full2 hck (by omega) (by omega) (by omega) hu (by simpa using hpt)
         ·(try dsimp only); omega
         ·exact sr (sr (sr (sr (sr (sr (sr (sr (sr (sr (sr (sr (sr (sr (sr (sr (sr (sr (sr (sr (Sub.nil _))))))))))))))))))))
         ·exact pk [0, 1, 2, 3, 4, 5, 6, 7]
        ·simp only [Bool.not_eq_false'] at hc76
         have hu := hc76
         refine c_skip (q_then (c_seq ?_))
         refine c_held hmix [loose tSlot (False) Sgrown agrown cgrown grown, loose tSlot (False) (fun _ => False) none 0 ([] : List DSlot), loose tSlot (False) (fun _ => False) none 0 ([] : List DSlot), loose tSlot (False) (fun _ => False) none 0 ([] : List DSlot), own tSlot S11 a13 c14 (Tab.sizeR tt slots), own tSlot S6 a8 c9 (Tab.delR tt key), own tSlot S1 a3 c4 (Tab.putR tt key value), base w0] rfl rfl ?_
         refine h_t0 (i := 0) (ls := #[T1,F0,F0,F0,F0,F0,F0,F0,F0,F0,F0,F0,F0,F0,F0,F0,F0]) rfl (p_move rfl) ?_
         refine h_t0 (i := 1) (ls := #[T1,T1,F0,F0,F0,F0,F0,F0,F0,F0,F0,F0,F0,F0,F0,F0,F0]) rfl (p_move rfl) ?_
         refine h_t0 (i := 2) (ls := #[T1,T1,T1,F0,F0,F0,F0,F0,F0,F0,F0,F0,F0,F0,F0,F0,F0]) rfl (p_move rfl) ?_
         refine h_t0 (i := 3) (ls := #[T1,T1,T1,T1,F0,F0,F0,F0,F0,F0,F0,F0,F0,F0,F0,F0,F0]) rfl (p_indexAddr (L := tt) (T := tSlot) (i := (i : Int)) rfl rfl (rd_base (i := 7) rfl htt) Try.underlying22 sz33 (by omega) (by omega)) ?_
         refine h_t0 (i := 4) (ls := #[T1,T1,T1,T1,T1,F0,F0,F0,F0,F0,F0,F0,F0,F0,F0,F0,F0]) rfl (p_fieldAddrE rfl fo33_1) ?_
         refine h_t0 (i := 5) (ls := #[T1,T1,T1,T1,T1,T1,F0,F0,F0,F0,F0,F0,F0,F0,F0,F0,F0]) rfl (p_loadF (i := i) (j := 1) (T := tSlot) (L := tt) (v := .string ((tt.getD i default).key)) rfl (rd_base (i := 7) rfl htt) (by first | assumption | omega) sh9 (congrArg (fun z => (tSlot.enc z)[1]?) (getd_at (by first | assumption | omega) default))) ?_
         refine h_t0 (i := 6) (ls := #[T1,T1,T1,T1,T1,T1,T1,F0,F0,F0,F0,F0,F0,F0,F0,F0,F0]) rfl (p_move rfl) ?_
         refine h_t0 (i := 7) (ls := #[T1,T1,T1,T1,T1,T1,T1,T1,F0,F0,F0,F0,F0,F0,F0,F0,F0]) rfl (p_move rfl) ?_
         refine h_t0 (i := 8) (ls := #[T1,T1,T1,T1,T1,T1,T1,T1,T1,F0,F0,F0,F0,F0,F0,F0,F0]) rfl (p_indexAddr (L := tt) (T := tSlot) (i := (i : Int)) rfl rfl (rd_base (i := 7) rfl htt) Try.underlying22 sz33 (by omega) (by omega)) ?_
         refine h_t0 (i := 9) (ls := #[T1,T1,T1,T1,T1,T1,T1,T1,T1,T1,F0,F0,F0,F0,F0,F0,F0]) rfl (p_fieldAddrE rfl fo33_2) ?_
         refine h_t0 (i := 10) (ls := #[T1,T1,T1,T1,T1,T1,T1,T1,T1,T1,T1,F0,F0,F0,F0,F0,F0]) rfl (p_loadF (i := i) (j := 2) (T := tSlot) (L := tt) (v := Vi ((tt.getD i default).value)) rfl (rd_base (i := 7) rfl htt) (by first | assumption | omega) sh3 (congrArg (fun z => (tSlot.enc z)[2]?) (getd_at (by first | assumption | omega) default))) ?_
         refine h_one (i := 11) (ls := #[T1,T1,T1,T1,T1,T1,T1,T1,T1,T1,T1,T1,F0,F0,F0,F0,F0]) (by kernel_rfl) rfl rfl ?_
         refine o_callM rfl (tablePut_ok grown agrown cgrown ((tt.getD i default).key) ((tt.getD i default).value) (by first | assumption | exact ⟨hTok, by omega⟩ | exact ⟨hI.ok (by omega), Tab.key_le (Tab.ck_go hck) (by omega)⟩)) hf23 (fun w hw => (rd_loose (i := 0) rfl (fun hφ => hφ.elim)) w hw) rfl (fun _ _ _ _ ha hA => SlO.agree ha hA) ?_
         rintro ⟨a77_11, c77_11⟩ S77_11
         refine o_know (fun w hw => own_len (i := 0) (T := tSlot) hw rfl) (fun hlr77_11 => ?_)
         refine o_nil ?_
         refine h_next (dp (lz (lj (lj (lj (lj (lj (lj (lj (lj (ln))))))))))) ?_
         refine h_tk (i := 12) (ls := #[T1,T1,T1,T1,T1,T1,T1,T1,T1,T1,T1,T1,T1,F0,F0,F0,F0]) rfl (p_move rfl) (dp (lz (lj (lj (lj (lj (lj (lj (lj (lj (ln))))))))))) ?_
         refine h_tk (i := 13) (ls := #[T1,T1,T1,T1,T1,T1,T1,T1,T1,T1,T1,T1,T1,T1,F0,F0,F0]) rfl (p_extract rfl rfl) (dp (lz (lj (lj (lj (lj (lj (lj (lj (lj (ln))))))))))) ?_
         refine h_tk (i := 14) (ls := #[T1,T1,T1,T1,T1,T1,T1,T1,T1,T1,T1,T1,T1,T1,T1,F0,F0]) rfl (p_extract rfl rfl) (dp (lz (lj (lj (lj (lj (lj (lj (lj (lj (ln))))))))))) ?_
         refine h_tk (i := 15) (ls := #[T1,T1,T1,T1,T1,T1,T1,T1,T1,T1,T1,T1,T1,T1,T1,T1,F0]) rfl (p_assign rfl) (dp (lz (lj (lj (lj (lj (lj (lj (lj (lj (ln))))))))))) ?_
         refine h_tk (i := 16) (ls := #[T1,T1,T1,T1,T1,T1,T1,T1,T1,T1,T1,T1,T1,T1,T1,T1,T1]) rfl (p_assign rfl) (dp (lz (lj (lj (lj (lj (lj (lj (lj (lj (ln))))))))))) ?_
         refine h_done (by kernel_rfl) ?_
         refine q_then (c_seq (c_region ?_))
         refine o_mv rfl rfl ?_
         refine o_p (p_not (b := (!decide (Tab.putAt grown ((tt.getD i default).key) < 0))) rfl) ?_
         refine o_nil (q_then ?_)
         refine c_cond rfl (fun hc78 => ?_) (fun hc78 => ?_)
         ·simp only [Bool.not_eq_true', Bool.not_eq_false', decide_eq_true_eq] at hc78
          have hpt := hc78
          refine c_region ?_
          refine o_as rfl rfl ?_
          refine o_nil ?_
          refine q_block_normal (q_then ?_)
          refine c_region ?_
          refine o_mv rfl rfl ?_
          refine o_p (p_addb rfl rfl (by omega)) ?_
          refine o_as rfl rfl ?_
          refine o_nil ?_
          refine q_heap (H' := [loose tSlot (False) S77_11 a77_11 c77_11 (Tab.putT grown ((tt.getD i default).key) ((tt.getD i default).value)), loose tSlot (False) Sgrown agrown cgrown grown, loose tSlot (False) (fun _ => False) none 0 ([] : List DSlot), loose tSlot (False) (fun _ => False) none 0 ([] : List DSlot), loose tSlot (False) (fun _ => False) none 0 ([] : List DSlot), own tSlot S11 a13 c14 (Tab.sizeR tt slots), own tSlot S6 a8 c9 (Tab.delR tt key), own tSlot S1 a3 c4 (Tab.putR tt key value), base w0]) (fun w hw => HeapIs.toLoose (i := 0) (T := tSlot) rfl hw) ?_
          refine q_round hK73 (8, (Tab.putT grown ((tt.getD i default).key) ((tt.getD i default).value)), a77_11, c77_11, S77_11, i + 1) ?_ ?_ ?_ ?_
          ·clear hK73
           first | exact hI.skip2 (by omega) (by omega) hu | exact hI.add2 hTok (by omega) (by omega) hu (by simpa using hpt) | exact hI.full2 hck (by omega) (by omega) (by omega) hu (by simpa using hpt)
          ·(try dsimp only); omega
          ·exact sr (sr (sr (sr (sr (sr (sr (sr (sr (sr (sr (sr (sr (sr (sr (sr (sr (sr (sr (sr (Sub.nil _))))))))))))))))))))
          ·exact pk [0, 2, 3, 4, 5, 6, 7, 8]
         ·simp only [Bool.not_eq_false', Bool.not_eq_true', decide_eq_false_iff_not, Int.not_lt] at hc78
          have hpt := hc78
          refine c_skip ?_
          refine q_block_normal (q_then ?_)
          refine c_region ?_
          refine o_mv rfl rfl ?_
          refine o_p (p_addb rfl rfl (by omega)) ?_
          refine o_as rfl rfl ?_
          refine o_nil ?_
          refine q_heap (H' := [loose tSlot (False) S77_11 a77_11 c77_11 (Tab.putT grown ((tt.getD i default).key) ((tt.getD i default).value)), loose tSlot (False) Sgrown agrown cgrown grown, loose tSlot (False) (fun _ => False) none 0 ([] : List DSlot), loose tSlot (False) (fun _ => False) none 0 ([] : List DSlot), loose tSlot (False) (fun _ => False) none 0 ([] : List DSlot), own tSlot S11 a13 c14 (Tab.sizeR tt slots), own tSlot S6 a8 c9 (Tab.delR tt key), own tSlot S1 a3 c4 (Tab.putR tt key value), base w0]) (fun w hw => HeapIs.toLoose (i := 0) (T := tSlot) rfl hw) ?_
          refine q_round hK73 (o, (Tab.putT grown ((tt.getD i default).key) ((tt.getD i default).value)), a77_11, c77_11, S77_11, i + 1) ?_ ?_ ?_ ?_
          ·clear hK73
           first | exact hI.skip2 (by omega) (by omega) hu | exact hI.add2 hTok (by omega) (by omega) hu (by simpa using hpt) | exact hI.full2 hck (by omega) (by omega) (by omega) hu (by simpa using hpt)
          ·(try dsimp only); omega
          ·exact sr (sr (sr (sr (sr (sr (sr (sr (sr (sr (sr (sr (sr (sr (sr (sr (sr (sr (sr (sr (Sub.nil _))))))))))))))))))))
          ·exact pk [0, 2, 3, 4, 5, 6, 7, 8]
       ·simp only [Bool.and_eq_false_iff, decide_eq_false_iff_not, Int.not_lt, beq_eq_false_iff_ne, ne_eq] at hc75
        refine c_exit ?_
        refine q_then_exit (q_then_exit (q_block_exit ?_))
        refine q_join hK19 (5, 3, o, 0, 0, ([] : List DSlot), none, 0, (fun _ => False), ([] : List DSlot), none, 0, (fun _ => False), grown, agrown, cgrown, Sgrown) ?_ (sr (sr (sr (sr (sr (sr (sr (sr (sr (sr (sr (sr (sr (sr (sr (sr (sr (sr (sr (Sub.nil _)))))))))))))))))))) (pk [0, 2, 3, 4, 5, 6, 7])
        clear hK19
        refine ⟨?_, ?_, ?_⟩
        ·first | exact Tab.s_v0 key hck | exact Tab.s_v1 hck (by omega) | exact Tab.s_v2 hck (by omega) (by omega) | exact Tab.s_v3 hck (by omega) (by omega)
        ·first | exact Tab.s_u0 key value hck | exact Tab.s_u1 hck (by omega) | exact Tab.s_u2 hck (by omega) (by omega) | exact Tab.s_u3 hck (by omega) (by omega)
        ·first | exact Tab.s_o0 slots hck | exact Tab.s_o1 hck (by omega) | exact hI.done hck (by omega) (by omega)
     ·simp only [Bool.or_eq_false_iff, decide_eq_false_iff_not, Int.not_lt] at hc67
      refine c_seq (c_region ?_)
      refine o_mv rfl rfl ?_
      refine o_mv rfl rfl ?_
      refine o_mv rfl rfl ?_
      refine o_callM rfl (tablePut_ok tt att ctt key value (by first | assumption | exact ⟨hTok, by omega⟩ | exact ⟨hI.ok (by omega), Tab.key_le (Tab.ck_go hck) (by omega)⟩)) hf23 (fun w hw => (rd_base (i := 6) rfl htt) w hw) rfl (fun _ _ _ _ ha hA => SlO.agree ha hA) ?_
      rintro ⟨a81, c82⟩ S79
      refine o_know (fun w hw => own_len (i := 0) (T := tSlot) hw rfl) (fun hlr83 => ?_)
      refine o_mv rfl rfl ?_
      refine o_ex rfl rfl rfl ?_
      refine o_ex rfl rfl rfl ?_
      refine o_as rfl rfl ?_
      refine o_as rfl rfl ?_
      refine o_nil (q_then (c_seq (c_region ?_)))
      refine o_mv rfl rfl ?_
      refine o_p (p_not (b := (!decide (Tab.putAt tt key < 0))) rfl) ?_
      refine o_nil (q_then ?_)
      refine c_cond rfl (fun hc84 => ?_) (fun hc84 => ?_)
      ·simp only [Bool.not_eq_true', Bool.not_eq_false', decide_eq_true_eq] at hc84
       have hpt := hc84
       refine c_region ?_
       refine o_as rfl rfl ?_
       refine o_nil (q_then (c_seq (c_region ?_)))
       refine o_mv rfl rfl ?_
       refine o_p (p_lt rfl rfl) ?_
       refine o_mv rfl rfl ?_
       refine o_or (p := 117) 3 (decide (64 < slots)) ?_ ?_ ?_
       ·intro hb85 hk
        simp only [decide_eq_false_iff_not, Int.not_lt] at hb85
        refine o_unguard 114 rfl rfl ?_
        refine o_mv rfl rfl ?_
        refine o_unguard 114 rfl rfl ?_
        refine o_p (p_gt rfl rfl) ?_
        refine o_pf rfl rfl rfl ?_
        exact o_sub (sr (Sub.skip rfl (Sub.skip rfl (Sub.skip rfl (Sub.skip rfl (Sub.refl _)))))) hk
       ·intro hb85 hk
        refine o_guard_no rfl 114 rfl rfl rfl rfl rfl ?_
        refine o_guard_no rfl 114 rfl rfl rfl rfl rfl ?_
        refine o_pt rfl rfl rfl ?_
        exact o_sub (sr (Sub.skip rfl (Sub.skip rfl (Sub.skip rfl (Sub.skip rfl (Sub.refl _)))))) hk
       refine o_nil (q_then ?_)
       refine c_cond rfl (fun hc86 => ?_) (fun hc86 => ?_)
       ·simp only [Bool.or_eq_true, decide_eq_true_eq] at hc86
        refine c_region ?_
        refine o_as rfl rfl ?_
        refine o_nil ?_
        refine q_heap (H' := [loose tSlot (False) S79 a81 c82 (Tab.putT tt key value), loose tSlot (False) (fun _ => False) none 0 ([] : List DSlot), loose tSlot (False) (fun _ => False) none 0 ([] : List DSlot), loose tSlot (False) (fun _ => False) none 0 ([] : List DSlot), own tSlot S11 a13 c14 (Tab.sizeR tt slots), own tSlot S6 a8 c9 (Tab.delR tt key), own tSlot S1 a3 c4 (Tab.putR tt key value), base w0]) (fun w hw => HeapIs.toLoose (i := 0) (T := tSlot) rfl hw) ?_
        refine q_join hK19 (5, 8, 3, 0, 0, (Tab.putT tt key value), a81, c82, S79, ([] : List DSlot), none, 0, (fun _ => False), ([] : List DSlot), none, 0, (fun _ => False)) ?_ (sr (sr (sr (sr (sr (sr (sr (sr (sr (sr (sr (sr (sr (sr (sr (sr (sr (sr (sr (Sub.nil _)))))))))))))))))))) (pk [1, 2, 0, 4, 5, 6, 7])
        clear hK19
        refine ⟨?_, ?_, ?_⟩
        ·first | exact Tab.s_v0 key hck | exact Tab.s_v1 hck (by omega) | exact Tab.s_v2 hck (by omega) (by omega) | exact Tab.s_v3 hck (by omega) (by omega)
        ·first | exact Tab.s_u0 key value hck | exact Tab.s_u1 hck (by omega) | exact Tab.s_u2 hck (by omega) (by omega) | exact Tab.s_u3 hck (by omega) (by omega)
        ·first | exact Tab.s_o0 slots hck | exact Tab.s_o1 hck (by omega) | exact hI.done hck (by omega) (by omega)
       ·simp only [Bool.or_eq_false_iff, decide_eq_false_iff_not, Int.not_lt] at hc86
        refine c_seq (c_region ?_)
        refine o_mv rfl rfl ?_
        refine o_makeSlice (T := tSlot) (m := slots) (z := (⟨false, ByteArray.empty, 0⟩ : DSlot)) rfl rfl Try.underlying22 el33 ze33 rfl (by decide) (by omega) (by omega) rfl (fun S88 a87 => ?_)
        refine o_as rfl rfl ?_
        refine o_nil (q_then (c_seq (c_region ?_)))
        refine o_as rfl rfl ?_
        refine o_nil (q_then (c_block ?_))
        refine c_heap (H' := [loose tSlot (False) S88 a87 slots.toNat (List.replicate slots.toNat (⟨false, ByteArray.empty, 0⟩ : DSlot)), own tSlot S79 a81 c82 (Tab.putT tt key value), loose tSlot (False) (fun _ => False) none 0 ([] : List DSlot), loose tSlot (False) (fun _ => False) none 0 ([] : List DSlot), loose tSlot (False) (fun _ => False) none 0 ([] : List DSlot), own tSlot S11 a13 c14 (Tab.sizeR tt slots), own tSlot S6 a8 c9 (Tab.delR tt key), own tSlot S1 a3 c4 (Tab.putR tt key value), base w0]) (fun w hw => HeapIs.toLoose (i := 0) (T := tSlot) rfl hw) ?_
        refine c_loop (St := Int × List DSlot × Option Addr × Nat × (Nat → Prop) × Nat)
         (fun ⟨o, grown, agrown, cgrown, Sgrown, i⟩ => [(0, .slice att tt.length ctt), (9, Vi (Tab.has tt key)), (10, Vi (Tab.looked tt key)), (11, Vi (Tab.keyErr tt key)), (12, .slice a3 (Tab.putR tt key value).length c4), (13, Vi (Tab.putErr tt key value)), (14, .slice a8 (Tab.delR tt key).length c9), (15, Vi (Tab.keyErr tt key)), (16, .slice a13 (Tab.sizeR tt slots).length c14), (17, Vi (Tab.sizeErr tt slots)), (18, Vi (Tab.check tt)), (19, Vi 5), (20, Vi 8), (21, Vi o), (22, Vi 0), (23, Vi 0), (24, .slice a81 (Tab.putT tt key value).length c82), (25, .slice none ([] : List DSlot).length 0), (26, .slice agrown grown.length cgrown), (29, Vi (i : Int))])
         (fun ⟨o, grown, agrown, cgrown, Sgrown, i⟩ => [loose tSlot (False) Sgrown agrown cgrown grown, own tSlot S79 a81 c82 (Tab.putT tt key value), loose tSlot (False) (fun _ => False) none 0 ([] : List DSlot), loose tSlot (False) (fun _ => False) none 0 ([] : List DSlot), loose tSlot (False) (fun _ => False) none 0 ([] : List DSlot), own tSlot S11 a13 c14 (Tab.sizeR tt slots), own tSlot S6 a8 c9 (Tab.delR tt key), own tSlot S1 a3 c4 (Tab.putR tt key value), base w0])
         (fun ⟨o, grown, agrown, cgrown, Sgrown, i⟩ => Tab.GI tt slots grown o i)
         (fun ⟨o, grown, agrown, cgrown, Sgrown, i⟩ => tt.length - i)
         ((Tab.check tt), (List.replicate slots.toNat (⟨false, ByteArray.empty, 0⟩ : DSlot)), a87, slots.toNat, S88, 0) ?_ (sr (sr (sr (sr (sr (sr (sr (sr (sr (sr (sr (sr (sr (sr (sr (sr (sr (sr (sr (sr (Sub.nil _))))))))))))))))))))) (fun _ hw => hw) ?_
        ·exact Tab.GI.start2 (by omega) (by omega)
        rintro ⟨o, grown, agrown, cgrown, Sgrown, i⟩ hI K hK90
        have hle := hI.le
        show SC _ _ Try.prog 205 w0 _ _ [(0, .slice att tt.length ctt), (9, Vi (Tab.has tt key)), (10, Vi (Tab.looked tt key)), (11, Vi (Tab.keyErr tt key)), (12, .slice a3 (Tab.putR tt key value).length c4), (13, Vi (Tab.putErr tt key value)), (14, .slice a8 (Tab.delR tt key).length c9), (15, Vi (Tab.keyErr tt key)), (16, .slice a13 (Tab.sizeR tt slots).length c14), (17, Vi (Tab.sizeErr tt slots)), (18, Vi (Tab.check tt)), (19, Vi 5), (20, Vi 8), (21, Vi o), (22, Vi 0), (23, Vi 0), (24, .slice a81 (Tab.putT tt key value).length c82), (25, .slice none ([] : List DSlot).length 0), (26, .slice agrown grown.length cgrown), (29, Vi (i : Int))] [loose tSlot (False) Sgrown agrown cgrown grown, own tSlot S79 a81 c82 (Tab.putT tt key value), loose tSlot (False) (fun _ => False) none 0 ([] : List DSlot), loose tSlot (False) (fun _ => False) none 0 ([] : List DSlot), loose tSlot (False) (fun _ => False) none 0 ([] : List DSlot), own tSlot S11 a13 c14 (Tab.sizeR tt slots), own tSlot S6 a8 c9 (Tab.delR tt key), own tSlot S1 a3 c4 (Tab.putR tt key value), base w0]
        refine c_seq (c_seq (c_region ?_))
        refine o_mv rfl rfl ?_
        refine o_mv rfl rfl ?_
        refine o_p (p_len_slice rfl rfl Try.underlying22) ?_
        refine o_p (p_lt rfl rfl) ?_
        refine o_mv rfl rfl ?_
        refine o_and (p := 127) 3 (o == 0) ?_ ?_ ?_
        ·intro hb91 hk
         simp only [decide_eq_true_eq] at hb91
         refine o_unguard 124 rfl rfl ?_
         refine o_mv rfl rfl ?_
         refine o_unguard 124 rfl rfl ?_
         refine o_p (p_eq rfl rfl) ?_
         refine o_pt rfl rfl rfl ?_
         exact o_sub (sr (Sub.skip rfl (Sub.skip rfl (Sub.skip rfl (Sub.skip rfl (Sub.refl _)))))) hk
        ·intro hb91 hk
         refine o_guard_no rfl 124 rfl rfl rfl rfl rfl ?_
         refine o_guard_no rfl 124 rfl rfl rfl rfl rfl ?_
         refine o_pf rfl rfl rfl ?_
         exact o_sub (sr (Sub.skip rfl (Sub.skip rfl (Sub.skip rfl (Sub.skip rfl (Sub.refl _)))))) hk
        refine o_nil (q_then ?_)
        refine c_cond rfl (fun hc92 => ?_) (fun hc92 => ?_)
        ·simp only [Bool.and_eq_true, decide_eq_true_eq, beq_iff_eq] at hc92
         refine c_skip (q_then (c_seq (c_block (c_seq (c_seq (c_region ?_))))))
         refine o_mv rfl rfl ?_
         refine o_mv rfl rfl ?_
         refine o_p (p_indexAddr (L := tt) (T := tSlot) (i := (i : Int)) rfl rfl (rd_base (i := 8) rfl htt) Try.underlying22 sz33 (by omega) (by omega)) ?_
         refine o_p (p_fieldAddrE rfl fo33_0) ?_
         refine o_p (p_loadF (i := i) (j := 0) (T := tSlot) (L := tt) (v := .bool ((tt.getD i default).used)) rfl (rd_base (i := 8) rfl htt) (by first | assumption | omega) sh4 (congrArg (fun z => (tSlot.enc z)[0]?) (getd_at (by first | assumption | omega) default))) ?_
         refine o_p (p_not (b := (tt.getD i default).used) rfl) ?_
         refine o_nil (q_then ?_)
         refine c_cond rfl (fun hc93 => ?_) (fun hc93 => ?_)
         ·simp only [Bool.not_eq_true'] at hc93
          have hu := hc93
          refine c_exit ?_
          refine q_then_exit (q_block_exit (q_then ?_))
          refine c_region ?_
          refine o_mv rfl rfl ?_
          refine o_p (p_addb rfl rfl (by omega)) ?_
          refine o_as rfl rfl ?_
          refine o_nil ?_
          refine q_round hK90 (o, grown, agrown, cgrown, Sgrown, i + 1) ?_ ?_ ?_ ?_
          ·clear hK90
           first | exact hI.skip2 (by omega) (by omega) hu | exact hI.add2 hTok (by omega) (by omega) hu (by simpa using hpt) | exact hI.full2 hck (by omega) (by omega) (by omega) hu (by simpa using hpt)
          ·(try dsimp only); omega
          ·exact sr (sr (sr (sr (sr (sr (sr (sr (sr (sr (sr (sr (sr (sr (sr (sr (sr (sr (sr (sr (Sub.nil _))))))))))))))))))))
          ·exact pk [0, 1, 2, 3, 4, 5, 6, 7, 8]
         ·simp only [Bool.not_eq_false'] at hc93
          have hu := hc93
          refine c_skip (q_then (c_seq ?_))
          refine c_held hmix [loose tSlot (False) Sgrown agrown cgrown grown, own tSlot S79 a81 c82 (Tab.putT tt key value), loose tSlot (False) (fun _ => False) none 0 ([] : List DSlot), loose tSlot (False) (fun _ => False) none 0 ([] : List DSlot), loose tSlot (False) (fun _ => False) none 0 ([] : List DSlot), own tSlot S11 a13 c14 (Tab.sizeR tt slots), own tSlot S6 a8 c9 (Tab.delR tt key), own tSlot S1 a3 c4 (Tab.putR tt key value), base w0] rfl rfl ?_
          refine h_t0 (i := 0) (ls := #[T1,F0,F0,F0,F0,F0,F0,F0,F0,F0,F0,F0,F0,F0,F0,F0,F0]) rfl (p_move rfl) ?_
          refine h_t0 (i := 1) (ls := #[T1,T1,F0,F0,F0,F0,F0,F0,F0,F0,F0,F0,F0,F0,F0,F0,F0]) rfl (p_move rfl) ?_
          refine h_t0 (i := 2) (ls := #[T1,T1,T1,F0,F0,F0,F0,F0,F0,F0,F0,F0,F0,F0,F0,F0,F0]) rfl (p_move rfl) ?_
          refine h_t0 (i := 3) (ls := #[T1,T1,T1,T1,F0,F0,F0,F0,F0,F0,F0,F0,F0,F0,F0,F0,F0]) rfl (p_indexAddr (L := tt) (T := tSlot) (i := (i : Int)) rfl rfl (rd_base (i := 8) rfl htt) Try.underlying22 sz33 (by omega) (by omega)) ?_
          refine h_t0 (i := 4) (ls := #[T1,T1,T1,T1,T1,F0,F0,F0,F0,F0,F0,F0,F0,F0,F0,F0,F0]) rfl (p_fieldAddrE rfl fo33_1) ?_
          refine h_t0 (i := 5) (ls := #[T1,T1,T1,T1,T1,T1,F0,F0,F0,F0,F0,F0,F0,F0,F0,F0,F0]) rfl (p_loadF (i := i) (j := 1) (T := tSlot) (L := tt) (v := .string ((tt.getD i default).key)) rfl (rd_base (i := 8) rfl htt) (by first | assumption | omega) sh9 (congrArg (fun z => (tSlot.enc z)[1]?) (getd_at (by first | assumption | omega) default))) ?_
          refine h_t0 (i := 6) (ls := #[T1,T1,T1,T1,T1,T1,T1,F0,F0,F0,F0,F0,F0,F0,F0,F0,F0]) rfl (p_move rfl) ?_
          refine h_t0 (i := 7) (ls := #[T1,T1,T1,T1,T1,T1,T1,T1,F0,F0,F0,F0,F0,F0,F0,F0,F0]) rfl (p_move rfl) ?_
          refine h_t0 (i := 8) (ls := #[T1,T1,T1,T1,T1,T1,T1,T1,T1,F0,F0,F0,F0,F0,F0,F0,F0]) rfl (p_indexAddr (L := tt) (T := tSlot) (i := (i : Int)) rfl rfl (rd_base (i := 8) rfl htt) Try.underlying22 sz33 (by omega) (by omega)) ?_
          refine h_t0 (i := 9) (ls := #[T1,T1,T1,T1,T1,T1,T1,T1,T1,T1,F0,F0,F0,F0,F0,F0,F0]) rfl (p_fieldAddrE rfl fo33_2) ?_
          refine h_t0 (i := 10) (ls := #[T1,T1,T1,T1,T1,T1,T1,T1,T1,T1,T1,F0,F0,F0,F0,F0,F0]) rfl (p_loadF (i := i) (j := 2) (T := tSlot) (L := tt) (v := Vi ((tt.getD i default).value)) rfl (rd_base (i := 8) rfl htt) (by first | assumption | omega) sh3 (congrArg (fun z => (tSlot.enc z)[2]?) (getd_at (by first | assumption | omega) default))) ?_
          refine h_one (i := 11) (ls := #[T1,T1,T1,T1,T1,T1,T1,T1,T1,T1,T1,T1,F0,F0,F0,F0,F0]) (by kernel_rfl) rfl rfl ?_
          refine o_callM rfl (tablePut_ok grown agrown cgrown ((tt.getD i default).key) ((tt.getD i default).value) (by first | assumption | exact ⟨hTok, by omega⟩ | exact ⟨hI.ok (by omega), Tab.key_le (Tab.ck_go hck) (by omega)⟩)) hf23 (fun w hw => (rd_loose (i := 0) rfl (fun hφ => hφ.elim)) w hw) rfl (fun _ _ _ _ ha hA => SlO.agree ha hA) ?_
          rintro ⟨a94_11, c94_11⟩ S94_11
          refine o_know (fun w hw => own_len (i := 0) (T := tSlot) hw rfl) (fun hlr94_11 => ?_)
          refine o_nil ?_
          refine h_next (dp (lz (lj (lj (lj (lj (lj (lj (lj (lj (lj (ln)))))))))))) ?_
          refine h_tk (i := 12) (ls := #[T1,T1,T1,T1,T1,T1,T1,T1,T1,T1,T1,T1,T1,F0,F0,F0,F0]) rfl (p_move rfl) (dp (lz (lj (lj (lj (lj (lj (lj (lj (lj (lj (ln)))))))))))) ?_
          refine h_tk (i := 13) (ls := #[T1,T1,T1,T1,T1,T1,T1,T1,T1,T1,T1,T1,T1,T1,F0,F0,F0]) rfl (p_extract rfl rfl) (dp (lz (lj (lj (lj (lj (lj (lj (lj (lj (lj (ln)))))))))))) ?_
          refine h_tk (i := 14) (ls := #[T1,T1,T1,T1,T1,T1,T1,T1,T1,T1,T1,T1,T1,T1,T1,F0,F0]) rfl (p_extract rfl rfl) (dp (lz (lj (lj (lj (lj (lj (lj (lj (lj (lj (ln)))))))))))) ?_
          refine h_tk (i := 15) (ls := #[T1,T1,T1,T1,T1,T1,T1,T1,T1,T1,T1,T1,T1,T1,T1,T1,F0]) rfl (p_assign rfl) (dp (lz (lj (lj (lj (lj (lj (lj (lj (lj (lj (ln)))))))))))) ?_
          refine h_tk (i := 16) (ls := #[T1,T1,T1,T1,T1,T1,T1,T1,T1,T1,T1,T1,T1,T1,T1,T1,T1]) rfl (p_assign rfl) (dp (lz (lj (lj (lj (lj (lj (lj (lj (lj (lj (ln)))))))))))) ?_
          refine h_done (by kernel_rfl) ?_
          refine q_then (c_seq (c_region ?_))
          refine o_mv rfl rfl ?_
          refine o_p (p_not (b := (!decide (Tab.putAt grown ((tt.getD i default).key) < 0))) rfl) ?_
          refine o_nil (q_then ?_)
          refine c_cond rfl (fun hc95 => ?_) (fun hc95 => ?_)
          ·simp only [Bool.not_eq_true', Bool.not_eq_false', decide_eq_true_eq] at hc95
           have hpt := hc95
           refine c_region ?_
           refine o_as rfl rfl ?_
           refine o_nil ?_
           refine q_block_normal (q_then ?_)
           refine c_region ?_
           refine o_mv rfl rfl ?_
           refine o_p (p_addb rfl rfl (by omega)) ?_
           refine o_as rfl rfl ?_
           refine o_nil ?_
           refine q_heap (H' := [loose tSlot (False) S94_11 a94_11 c94_11 (Tab.putT grown ((tt.getD i default).key) ((tt.getD i default).value)), loose tSlot (False) Sgrown agrown cgrown grown, own tSlot S79 a81 c82 (Tab.putT tt key value), loose tSlot (False) (fun _ => False) none 0 ([] : List DSlot), loose tSlot (False) (fun _ => False) none 0 ([] : List DSlot), loose tSlot (False) (fun _ => False) none 0 ([] : List DSlot), own tSlot S11 a13 c14 (Tab.sizeR tt slots), own tSlot S6 a8 c9 (Tab.delR tt key), own tSlot S1 a3 c4 (Tab.putR tt key value), base w0]) (fun w hw => HeapIs.toLoose (i := 0) (T := tSlot) rfl hw) ?_
           refine q_round hK90 (8, (Tab.putT grown ((tt.getD i default).key) ((tt.getD i default).value)), a94_11, c94_11, S94_11, i + 1) ?_ ?_ ?_ ?_
           ·clear hK90
            first | exact hI.skip2 (by omega) (by omega) hu | exact hI.add2 hTok (by omega) (by omega) hu (by simpa using hpt) | exact hI.full2 hck (by omega) (by omega) (by omega) hu (by simpa using hpt)
           ·(try dsimp only); omega
           ·exact sr (sr (sr (sr (sr (sr (sr (sr (sr (sr (sr (sr (sr (sr (sr (sr (sr (sr (sr (sr (Sub.nil _))))))))))))))))))))
           ·exact pk [0, 2, 3, 4, 5, 6, 7, 8, 9]
          ·simp only [Bool.not_eq_false', Bool.not_eq_true', decide_eq_false_iff_not, Int.not_lt] at hc95
           have hpt := hc95
           refine c_skip ?_
           refine q_block_normal (q_then ?_)
           refine c_region ?_
           refine o_mv rfl rfl ?_
           refine o_p (p_addb rfl rfl (by omega)) ?_
           refine o_as rfl rfl ?_
           refine o_nil ?_
           refine q_heap (H' := [loose tSlot (False) S94_11 a94_11 c94_11 (Tab.putT grown ((tt.getD i default).key) ((tt.getD i default).value)), loose tSlot (False) Sgrown agrown cgrown grown, own tSlot S79 a81 c82 (Tab.putT tt key value), loose tSlot (False) (fun _ => False) none 0 ([] : List DSlot), loose tSlot (False) (fun _ => False) none 0 ([] : List DSlot), loose tSlot (False) (fun _ => False) none 0 ([] : List DSlot), own tSlot S11 a13 c14 (Tab.sizeR tt slots), own tSlot S6 a8 c9 (Tab.delR tt key), own tSlot S1 a3 c4 (Tab.putR tt key value), base w0]) (fun w hw => HeapIs.toLoose (i := 0) (T := tSlot) rfl hw) ?_
           refine q_round hK90 (o, (Tab.putT grown ((tt.getD i default).key) ((tt.getD i default).value)), a94_11, c94_11, S94_11, i + 1) ?_ ?_ ?_ ?_
           ·clear hK90
            first | exact hI.skip2 (by omega) (by omega) hu | exact hI.add2 hTok (by omega) (by omega) hu (by simpa using hpt) | exact hI.full2 hck (by omega) (by omega) (by omega) hu (by simpa using hpt)
           ·(try dsimp only); omega
           ·exact sr (sr (sr (sr (sr (sr (sr (sr (sr (sr (sr (sr (sr (sr (sr (sr (sr (sr (sr (sr (Sub.nil _))))))))))))))))))))
           ·exact pk [0, 2, 3, 4, 5, 6, 7, 8, 9]
        ·simp only [Bool.and_eq_false_iff, decide_eq_false_iff_not, Int.not_lt, beq_eq_false_iff_ne, ne_eq] at hc92
         refine c_exit ?_
         refine q_then_exit (q_then_exit (q_block_exit ?_))
         refine q_heap (H' := [loose tSlot (False) Sgrown agrown cgrown grown, loose tSlot (False) S79 a81 c82 (Tab.putT tt key value), loose tSlot (False) (fun _ => False) none 0 ([] : List DSlot), loose tSlot (False) (fun _ => False) none 0 ([] : List DSlot), loose tSlot (False) (fun _ => False) none 0 ([] : List DSlot), own tSlot S11 a13 c14 (Tab.sizeR tt slots), own tSlot S6 a8 c9 (Tab.delR tt key), own tSlot S1 a3 c4 (Tab.putR tt key value), base w0]) (fun w hw => HeapIs.toLoose (i := 1) (T := tSlot) rfl hw) ?_
         refine q_join hK19 (5, 8, o, 0, 0, (Tab.putT tt key value), a81, c82, S79, ([] : List DSlot), none, 0, (fun _ => False), grown, agrown, cgrown, Sgrown) ?_ (sr (sr (sr (sr (sr (sr (sr (sr (sr (sr (sr (sr (sr (sr (sr (sr (sr (sr (sr (Sub.nil _)))))))))))))))))))) (pk [0, 3, 1, 5, 6, 7, 8])
         clear hK19
         refine ⟨?_, ?_, ?_⟩
         ·first | exact Tab.s_v0 key hck | exact Tab.s_v1 hck (by omega) | exact Tab.s_v2 hck (by omega) (by omega) | exact Tab.s_v3 hck (by omega) (by omega)
         ·first | exact Tab.s_u0 key value hck | exact Tab.s_u1 hck (by omega) | exact Tab.s_u2 hck (by omega) (by omega) | exact Tab.s_u3 hck (by omega) (by omega)
         ·first | exact Tab.s_o0 slots hck | exact Tab.s_o1 hck (by omega) | exact hI.done hck (by omega) (by omega)
      ·simp only [Bool.not_eq_false', Bool.not_eq_true', decide_eq_false_iff_not, Int.not_lt] at hc84
       have hpt := hc84
       refine c_skip (q_then (c_seq (c_region ?_)))
       refine o_mv rfl rfl ?_
       refine o_p (p_lt rfl rfl) ?_
       refine o_mv rfl rfl ?_
       refine o_or (p := 117) 3 (decide (64 < slots)) ?_ ?_ ?_
       ·intro hb96 hk
        simp only [decide_eq_false_iff_not, Int.not_lt] at hb96
        refine o_unguard 114 rfl rfl ?_
        refine o_mv rfl rfl ?_
        refine o_unguard 114 rfl rfl ?_
        refine o_p (p_gt rfl rfl) ?_
        refine o_pf rfl rfl rfl ?_
        exact o_sub (sr (Sub.skip rfl (Sub.skip rfl (Sub.skip rfl (Sub.skip rfl (Sub.refl _)))))) hk
       ·intro hb96 hk
        refine o_guard_no rfl 114 rfl rfl rfl rfl rfl ?_
        refine o_guard_no rfl 114 rfl rfl rfl rfl rfl ?_
        refine o_pt rfl rfl rfl ?_
        exact o_sub (sr (Sub.skip rfl (Sub.skip rfl (Sub.skip rfl (Sub.skip rfl (Sub.refl _)))))) hk
       refine o_nil (q_then ?_)
       refine c_cond rfl (fun hc97 => ?_) (fun hc97 => ?_)
       ·simp only [Bool.or_eq_true, decide_eq_true_eq] at hc97
        refine c_region ?_
        refine o_as rfl rfl ?_
        refine o_nil ?_
        refine q_heap (H' := [loose tSlot (False) S79 a81 c82 (Tab.putT tt key value), loose tSlot (False) (fun _ => False) none 0 ([] : List DSlot), loose tSlot (False) (fun _ => False) none 0 ([] : List DSlot), loose tSlot (False) (fun _ => False) none 0 ([] : List DSlot), own tSlot S11 a13 c14 (Tab.sizeR tt slots), own tSlot S6 a8 c9 (Tab.delR tt key), own tSlot S1 a3 c4 (Tab.putR tt key value), base w0]) (fun w hw => HeapIs.toLoose (i := 0) (T := tSlot) rfl hw) ?_
        refine q_join hK19 (5, (Tab.check tt), 3, 0, 0, (Tab.putT tt key value), a81, c82, S79, ([] : List DSlot), none, 0, (fun _ => False), ([] : List DSlot), none, 0, (fun _ => False)) ?_ (sr (sr (sr (sr (sr (sr (sr (sr (sr (sr (sr (sr (sr (sr (sr (sr (sr (sr (sr (Sub.nil _)))))))))))))))))))) (pk [1, 2, 0, 4, 5, 6, 7])
        clear hK19
        refine ⟨?_, ?_, ?_⟩
        ·first | exact Tab.s_v0 key hck | exact Tab.s_v1 hck (by omega) | exact Tab.s_v2 hck (by omega) (by omega) | exact Tab.s_v3 hck (by omega) (by omega)
        ·first | exact Tab.s_u0 key value hck | exact Tab.s_u1 hck (by omega) | exact Tab.s_u2 hck (by omega) (by omega) | exact Tab.s_u3 hck (by omega) (by omega)
        ·first | exact Tab.s_o0 slots hck | exact Tab.s_o1 hck (by omega) | exact hI.done hck (by omega) (by omega)
       ·simp only [Bool.or_eq_false_iff, decide_eq_false_iff_not, Int.not_lt] at hc97
        refine c_seq (c_region ?_)
        refine o_mv rfl rfl ?_
        refine o_makeSlice (T := tSlot) (m := slots) (z := (⟨false, ByteArray.empty, 0⟩ : DSlot)) rfl rfl Try.underlying22 el33 ze33 rfl (by decide) (by omega) (by omega) rfl (fun S99 a98 => ?_)
        refine o_as rfl rfl ?_
        refine o_nil (q_then (c_seq (c_region ?_)))
        refine o_as rfl rfl ?_
        refine o_nil (q_then (c_block ?_))
        refine c_heap (H' := [loose tSlot (False) S99 a98 slots.toNat (List.replicate slots.toNat (⟨false, ByteArray.empty, 0⟩ : DSlot)), own tSlot S79 a81 c82 (Tab.putT tt key value), loose tSlot (False) (fun _ => False) none 0 ([] : List DSlot), loose tSlot (False) (fun _ => False) none 0 ([] : List DSlot), loose tSlot (False) (fun _ => False) none 0 ([] : List DSlot), own tSlot S11 a13 c14 (Tab.sizeR tt slots), own tSlot S6 a8 c9 (Tab.delR tt key), own tSlot S1 a3 c4 (Tab.putR tt key value), base w0]) (fun w hw => HeapIs.toLoose (i := 0) (T := tSlot) rfl hw) ?_
        refine c_loop (St := Int × List DSlot × Option Addr × Nat × (Nat → Prop) × Nat)
         (fun ⟨o, grown, agrown, cgrown, Sgrown, i⟩ => [(0, .slice att tt.length ctt), (9, Vi (Tab.has tt key)), (10, Vi (Tab.looked tt key)), (11, Vi (Tab.keyErr tt key)), (12, .slice a3 (Tab.putR tt key value).length c4), (13, Vi (Tab.putErr tt key value)), (14, .slice a8 (Tab.delR tt key).length c9), (15, Vi (Tab.keyErr tt key)), (16, .slice a13 (Tab.sizeR tt slots).length c14), (17, Vi (Tab.sizeErr tt slots)), (18, Vi (Tab.check tt)), (19, Vi 5), (20, Vi (Tab.check tt)), (21, Vi o), (22, Vi 0), (23, Vi 0), (24, .slice a81 (Tab.putT tt key value).length c82), (25, .slice none ([] : List DSlot).length 0), (26, .slice agrown grown.length cgrown), (29, Vi (i : Int))])
         (fun ⟨o, grown, agrown, cgrown, Sgrown, i⟩ => [loose tSlot (False) Sgrown agrown cgrown grown, own tSlot S79 a81 c82 (Tab.putT tt key value), loose tSlot (False) (fun _ => False) none 0 ([] : List DSlot), loose tSlot (False) (fun _ => False) none 0 ([] : List DSlot), loose tSlot (False) (fun _ => False) none 0 ([] : List DSlot), own tSlot S11 a13 c14 (Tab.sizeR tt slots), own tSlot S6 a8 c9 (Tab.delR tt key), own tSlot S1 a3 c4 (Tab.putR tt key value), base w0])
         (fun ⟨o, grown, agrown, cgrown, Sgrown, i⟩ => Tab.GI tt slots grown o i)
         (fun ⟨o, grown, agrown, cgrown, Sgrown, i⟩ => tt.length - i)
         ((Tab.check tt), (List.replicate slots.toNat (⟨false, ByteArray.empty, 0⟩ : DSlot)), a98, slots.toNat, S99, 0) ?_ (sr (sr (sr (sr (sr (sr (sr (sr (sr (sr (sr (sr (sr (sr (sr (sr (sr (sr (sr (sr (Sub.nil _))))))))))))))))))))) (fun _ hw => hw) ?_
        ·exact Tab.GI.start2 (by omega) (by omega)
        rintro ⟨o, grown, agrown, cgrown, Sgrown, i⟩ hI K hK101
        have hle := hI.le
        show SC _ _ Try.prog 205 w0 _ _ [(0, .slice att tt.length ctt), (9, Vi (Tab.has tt key)), (10, Vi (Tab.looked tt key)), (11, Vi (Tab.keyErr tt key)), (12, .slice a3 (Tab.putR tt key value).length c4), (13, Vi (Tab.putErr tt key value)), (14, .slice a8 (Tab.delR tt key).length c9), (15, Vi (Tab.keyErr tt key)), (16, .slice a13 (Tab.sizeR tt slots).length c14), (17, Vi (Tab.sizeErr tt slots)), (18, Vi (Tab.check tt)), (19, Vi 5), (20, Vi (Tab.check tt)), (21, Vi o), (22, Vi 0), (23, Vi 0), (24, .slice a81 (Tab.putT tt key value).length c82), (25, .slice none ([] : List DSlot).length 0), (26, .slice agrown grown.length cgrown), (29, Vi (i : Int))] [loose tSlot (False) Sgrown agrown cgrown grown, own tSlot S79 a81 c82 (Tab.putT tt key value), loose tSlot (False) (fun _ => False) none 0 ([] : List DSlot), loose tSlot (False) (fun _ => False) none 0 ([] : List DSlot), loose tSlot (False) (fun _ => False) none 0 ([] : List DSlot), own tSlot S11 a13 c14 (Tab.sizeR tt slots), own tSlot S6 a8 c9 (Tab.delR tt key), own tSlot S1 a3 c4 (Tab.putR tt key value), base w0]
        refine c_seq (c_seq (c_region ?_))
        refine o_mv rfl rfl ?_
        refine o_mv rfl rfl ?_
        refine o_p (p_len_slice rfl rfl Try.underlying22) ?_
        refine o_p (p_lt rfl rfl) ?_
        refine o_mv rfl rfl ?_
        refine o_and (p := 127) 3 (o == 0) ?_ ?_ ?_
        ·intro hb102 hk
         simp only [decide_eq_true_eq] at hb102
         refine o_unguard 124 rfl rfl ?_
         refine o_mv rfl rfl ?_
         refine o_unguard 124 rfl rfl ?_
         refine o_p (p_eq rfl rfl) ?_
         refine o_pt rfl rfl rfl ?_
         exact o_sub (sr (Sub.skip rfl (Sub.skip rfl (Sub.skip rfl (Sub.skip rfl (Sub.refl _)))))) hk
        ·intro hb102 hk
         refine o_guard_no rfl 124 rfl rfl rfl rfl rfl ?_
         refine o_guard_no rfl 124 rfl rfl rfl rfl rfl ?_
         refine o_pf rfl rfl rfl ?_
         exact o_sub (sr (Sub.skip rfl (Sub.skip rfl (Sub.skip rfl (Sub.skip rfl (Sub.refl _)))))) hk
        refine o_nil (q_then ?_)
        refine c_cond rfl (fun hc103 => ?_) (fun hc103 => ?_)
        ·simp only [Bool.and_eq_true, decide_eq_true_eq, beq_iff_eq] at hc103
         refine c_skip (q_then (c_seq (c_block (c_seq (c_seq (c_region ?_))))))
         refine o_mv rfl rfl ?_
         refine o_mv rfl rfl ?_
         refine o_p (p_indexAddr (L := tt) (T := tSlot) (i := (i : Int)) rfl rfl (rd_base (i := 8) rfl htt) Try.underlying22 sz33 (by omega) (by omega)) ?_
         refine o_p (p_fieldAddrE rfl fo33_0) ?_
         refine o_p (p_loadF (i := i) (j := 0) (T := tSlot) (L := tt) (v := .bool ((tt.getD i default).used)) rfl (rd_base (i := 8) rfl htt) (by first | assumption | omega) sh4 (congrArg (fun z => (tSlot.enc z)[0]?) (getd_at (by first | assumption | omega) default))) ?_
         refine o_p (p_not (b := (tt.getD i default).used) rfl) ?_
         refine o_nil (q_then ?_)
         refine c_cond rfl (fun hc104 => ?_) (fun hc104 => ?_)
         ·simp only [Bool.not_eq_true'] at hc104
          have hu := hc104
          refine c_exit ?_
          refine q_then_exit (q_block_exit (q_then ?_))
          refine c_region ?_
          refine o_mv rfl rfl ?_
          refine o_p (p_addb rfl rfl (by omega)) ?_
          refine o_as rfl rfl ?_
          refine o_nil ?_
          refine q_round hK101 (o, grown, agrown, cgrown, Sgrown, i + 1) ?_ ?_ ?_ ?_
          ·clear hK101
           first | exact hI.skip2 (by omega) (by omega) hu | exact hI.add2 hTok (by omega) (by omega) hu (by simpa using hpt) | exact hI.full2 hck (by omega) (by omega) (by omega) hu (by simpa using hpt)
          ·(try dsimp only); omega
          ·exact sr (sr (sr (sr (sr (sr (sr (sr (sr (sr (sr (sr (sr (sr (sr (sr (sr (sr (sr (sr (Sub.nil _))))))))))))))))))))
          ·exact pk [0, 1, 2, 3, 4, 5, 6, 7, 8]
         ·simp only [Bool.not_eq_false'] at hc104
          have hu := hc104
          refine c_skip (q_then (c_seq ?_))
          refine c_held hmix [loose tSlot (False) Sgrown agrown cgrown grown, own tSlot S79 a81 c82 (Tab.putT tt key value), loose tSlot (False) (fun _ => False) none 0 ([] : List DSlot), loose tSlot (False) (fun _ => False) none 0 ([] : List DSlot), loose tSlot (False) (fun _ => False) none 0 ([] : List DSlot), own tSlot S11 a13 c14 (Tab.sizeR tt slots), own tSlot S6 a8 c9 (Tab.delR tt key), own tSlot S1 a3 c4 (Tab.putR tt key value), base w0] rfl rfl ?_
          refine h_t0 (i := 0) (ls := #[T1,F0,F0,F0,F0,F0,F0,F0,F0,F0,F0,F0,F0,F0,F0,F0,F0]) rfl (p_move rfl) ?_
          refine h_t0 (i := 1) (ls := #[T1,T1,F0,F0,F0,F0,F0,F0,F0,F0,F0,F0,F0,F0,F0,F0,F0]) rfl (p_move rfl) ?_
          refine h_t0 (i := 2) (ls := #[T1,T1,T1,F0,F0,F0,F0,F0,F0,F0,F0,F0,F0,F0,F0,F0,F0]) rfl (p_move rfl) ?_
          refine h_t0 (i := 3) (ls := #[T1,T1,T1,T1,F0,F0,F0,F0,F0,F0,F0,F0,F0,F0,F0,F0,F0]) rfl (p_indexAddr (L := tt) (T := tSlot) (i := (i : Int)) rfl rfl (rd_base (i := 8) rfl htt) Try.underlying22 sz33 (by omega) (by omega)) ?_
          refine h_t0 (i := 4) (ls := #[T1,T1,T1,T1,T1,F0,F0,F0,F0,F0,F0,F0,F0,F0,F0,F0,F0]) rfl (p_fieldAddrE rfl fo33_1) ?_
          refine h_t0 (i := 5) (ls := #[T1,T1,T1,T1,T1,T1,F0,F0,F0,F0,F0,F0,F0,F0,F0,F0,F0]) rfl (p_loadF (i := i) (j := 1) (T := tSlot) (L := tt) (v := .string ((tt.getD i default).key)) rfl (rd_base (i := 8) rfl htt) (by first | assumption | omega) sh9 (congrArg (fun z => (tSlot.enc z)[1]?) (getd_at (by first | assumption | omega) default))) ?_
          refine h_t0 (i := 6) (ls := #[T1,T1,T1,T1,T1,T1,T1,F0,F0,F0,F0,F0,F0,F0,F0,F0,F0]) rfl (p_move rfl) ?_
          refine h_t0 (i := 7) (ls := #[T1,T1,T1,T1,T1,T1,T1,T1,F0,F0,F0,F0,F0,F0,F0,F0,F0]) rfl (p_move rfl) ?_
          refine h_t0 (i := 8) (ls := #[T1,T1,T1,T1,T1,T1,T1,T1,T1,F0,F0,F0,F0,F0,F0,F0,F0]) rfl (p_indexAddr (L := tt) (T := tSlot) (i := (i : Int)) rfl rfl (rd_base (i := 8) rfl htt) Try.underlying22 sz33 (by omega) (by omega)) ?_
          refine h_t0 (i := 9) (ls := #[T1,T1,T1,T1,T1,T1,T1,T1,T1,T1,F0,F0,F0,F0,F0,F0,F0]) rfl (p_fieldAddrE rfl fo33_2) ?_
          refine h_t0 (i := 10) (ls := #[T1,T1,T1,T1,T1,T1,T1,T1,T1,T1,T1,F0,F0,F0,F0,F0,F0]) rfl (p_loadF (i := i) (j := 2) (T := tSlot) (L := tt) (v := Vi ((tt.getD i default).value)) rfl (rd_base (i := 8) rfl htt) (by first | assumption | omega) sh3 (congrArg (fun z => (tSlot.enc z)[2]?) (getd_at (by first | assumption | omega) default))) ?_
          refine h_one (i := 11) (ls := #[T1,T1,T1,T1,T1,T1,T1,T1,T1,T1,T1,T1,F0,F0,F0,F0,F0]) (by kernel_rfl) rfl rfl ?_
          refine o_callM rfl (tablePut_ok grown agrown cgrown ((tt.getD i default).key) ((tt.getD i default).value) (by first | assumption | exact ⟨hTok, by omega⟩ | exact ⟨hI.ok (by omega), Tab.key_le (Tab.ck_go hck) (by omega)⟩)) hf23 (fun w hw => (rd_loose (i := 0) rfl (fun hφ => hφ.elim)) w hw) rfl (fun _ _ _ _ ha hA => SlO.agree ha hA) ?_
          rintro ⟨a105_11, c105_11⟩ S105_11
          refine o_know (fun w hw => own_len (i := 0) (T := tSlot) hw rfl) (fun hlr105_11 => ?_)
          refine o_nil ?_
          refine h_next (dp (lz (lj (lj (lj (lj (lj (lj (lj (lj (lj (ln)))))))))))) ?_
          refine h_tk (i := 12) (ls := #[T1,T1,T1,T1,T1,T1,T1,T1,T1,T1,T1,T1,T1,F0,F0,F0,F0]) rfl (p_move rfl) (dp (lz (lj (lj (lj (lj (lj (lj (lj (lj (lj (ln)))))))))))) ?_
          refine h_tk (i := 13) (ls := #[T1,T1,T1,T1,T1,T1,T1,T1,T1,T1,T1,T1,T1,T1,F0,F0,F0]) rfl (p_extract rfl rfl) (dp (lz (lj (lj (lj (lj (lj (lj (lj (lj (lj (ln)))))))))))) ?_
          refine h_tk (i := 14) (ls := #[T1,T1,T1,T1,T1,T1,T1,T1,T1,T1,T1,T1,T1,T1,T1,F0,F0]) rfl (p_extract rfl rfl) (dp (lz (lj (lj (lj (lj (lj (lj (lj (lj (lj (ln)))))))))))) ?_
          refine h_tk (i := 15) (ls := #[T1,T1,T1,T1,T1,T1,T1,T1,T1,T1,T1,T1,T1,T1,T1,T1,F0]) rfl (p_assign rfl) (dp (lz (lj (lj (lj (lj (lj (lj (lj (lj (lj (ln)))))))))))) ?_
          refine h_tk (i := 16) (ls := #[T1,T1,T1,T1,T1,T1,T1,T1,T1,T1,T1,T1,T1,T1,T1,T1,T1]) rfl (p_assign rfl) (dp (lz (lj (lj (lj (lj (lj (lj (lj (lj (lj (ln)))))))))))) ?_
          refine h_done (by kernel_rfl) ?_
          refine q_then (c_seq (c_region ?_))
          refine o_mv rfl rfl ?_
          refine o_p (p_not (b := (!decide (Tab.putAt grown ((tt.getD i default).key) < 0))) rfl) ?_
          refine o_nil (q_then ?_)
          refine c_cond rfl (fun hc106 => ?_) (fun hc106 => ?_)
          ·simp only [Bool.not_eq_true', Bool.not_eq_false', decide_eq_true_eq] at hc106
           have hpt := hc106
           refine c_region ?_
           refine o_as rfl rfl ?_
           refine o_nil ?_
           refine q_block_normal (q_then ?_)
           refine c_region ?_
           refine o_mv rfl rfl ?_
           refine o_p (p_addb rfl rfl (by omega)) ?_
           refine o_as rfl rfl ?_
           refine o_nil ?_
           refine q_heap (H' := [loose tSlot (False) S105_11 a105_11 c105_11 (Tab.putT grown ((tt.getD i default).key) ((tt.getD i default).value)), loose tSlot (False) Sgrown agrown cgrown grown, own tSlot S79 a81 c82 (Tab.putT tt key value), loose tSlot (False) (fun _ => False) none 0 ([] : List DSlot), loose tSlot (False) (fun _ => False) none 0 ([] : List DSlot), loose tSlot (False) (fun _ => False) none 0 ([] : List DSlot), own tSlot S11 a13 c14 (Tab.sizeR tt slots), own tSlot S6 a8 c9 (Tab.delR tt key), own tSlot S1 a3 c4 (Tab.putR tt key value), base w0]) (fun w hw => HeapIs.toLoose (i := 0) (T := tSlot) rfl hw) ?_
           refine q_round hK101 (8, (Tab.putT grown ((tt.getD i default).key) ((tt.getD i default).value)), a105_11, c105_11, S105_11, i + 1) ?_ ?_ ?_ ?_
           ·clear hK101
            first | exact hI.skip2 (by omega) (by omega) hu | exact hI.add2 hTok (by omega) (by omega) hu (by simpa using hpt) | exact hI.full2 hck (by omega) (by omega) (by omega) hu (by simpa using hpt)
           ·(try dsimp only); omega
           ·exact sr (sr (sr (sr (sr (sr (sr (sr (sr (sr (sr (sr (sr (sr (sr (sr (sr (sr (sr (sr (Sub.nil _))))))))))))))))))))
           ·exact pk [0, 2, 3, 4, 5, 6, 7, 8, 9]
          ·simp only [Bool.not_eq_false', Bool.not_eq_true', decide_eq_false_iff_not, Int.not_lt] at hc106
           have hpt := hc106
           refine c_skip ?_
           refine q_block_normal (q_then ?_)
           refine c_region ?_
           refine o_mv rfl rfl ?_
           refine o_p (p_addb rfl rfl (by omega)) ?_
           refine o_as rfl rfl ?_
           refine o_nil ?_
           refine q_heap (H' := [loose tSlot (False) S105_11 a105_11 c105_11 (Tab.putT grown ((tt.getD i default).key) ((tt.getD i default).value)), loose tSlot (False) Sgrown agrown cgrown grown, own tSlot S79 a81 c82 (Tab.putT tt key value), loose tSlot (False) (fun _ => False) none 0 ([] : List DSlot), loose tSlot (False) (fun _ => False) none 0 ([] : List DSlot), loose tSlot (False) (fun _ => False) none 0 ([] : List DSlot), own tSlot S11 a13 c14 (Tab.sizeR tt slots), own tSlot S6 a8 c9 (Tab.delR tt key), own tSlot S1 a3 c4 (Tab.putR tt key value), base w0]) (fun w hw => HeapIs.toLoose (i := 0) (T := tSlot) rfl hw) ?_
           refine q_round hK101 (o, (Tab.putT grown ((tt.getD i default).key) ((tt.getD i default).value)), a105_11, c105_11, S105_11, i + 1) ?_ ?_ ?_ ?_
           ·clear hK101
            first | exact hI.skip2 (by omega) (by omega) hu | exact hI.add2 hTok (by omega) (by omega) hu (by simpa using hpt) | exact hI.full2 hck (by omega) (by omega) (by omega) hu (by simpa using hpt)
           ·(try dsimp only); omega
           ·exact sr (sr (sr (sr (sr (sr (sr (sr (sr (sr (sr (sr (sr (sr (sr (sr (sr (sr (sr (sr (Sub.nil _))))))))))))))))))))
           ·exact pk [0, 2, 3, 4, 5, 6, 7, 8, 9]
        ·simp only [Bool.and_eq_false_iff, decide_eq_false_iff_not, Int.not_lt, beq_eq_false_iff_ne, ne_eq] at hc103
         refine c_exit ?_
         refine q_then_exit (q_then_exit (q_block_exit ?_))
         refine q_heap (H' := [loose tSlot (False) Sgrown agrown cgrown grown, loose tSlot (False) S79 a81 c82 (Tab.putT tt key value), loose tSlot (False) (fun _ => False) none 0 ([] : List DSlot), loose tSlot (False) (fun _ => False) none 0 ([] : List DSlot), loose tSlot (False) (fun _ => False) none 0 ([] : List DSlot), own tSlot S11 a13 c14 (Tab.sizeR tt slots), own tSlot S6 a8 c9 (Tab.delR tt key), own tSlot S1 a3 c4 (Tab.putR tt key value), base w0]) (fun w hw => HeapIs.toLoose (i := 1) (T := tSlot) rfl hw) ?_
         refine q_join hK19 (5, (Tab.check tt), o, 0, 0, (Tab.putT tt key value), a81, c82, S79, ([] : List DSlot), none, 0, (fun _ => False), grown, agrown, cgrown, Sgrown) ?_ (sr (sr (sr (sr (sr (sr (sr (sr (sr (sr (sr (sr (sr (sr (sr (sr (sr (sr (sr (Sub.nil _)))))))))))))))))))) (pk [0, 3, 1, 5, 6, 7, 8])
         clear hK19
         refine ⟨?_, ?_, ?_⟩
         ·first | exact Tab.s_v0 key hck | exact Tab.s_v1 hck (by omega) | exact Tab.s_v2 hck (by omega) (by omega) | exact Tab.s_v3 hck (by omega) (by omega)
         ·first | exact Tab.s_u0 key value hck | exact Tab.s_u1 hck (by omega) | exact Tab.s_u2 hck (by omega) (by omega) | exact Tab.s_u3 hck (by omega) (by omega)
         ·first | exact Tab.s_o0 slots hck | exact Tab.s_o1 hck (by omega) | exact hI.done hck (by omega) (by omega)
    ·simp only [decide_eq_false_iff_not, Int.not_lt] at hc64
     have hsl := Tab.slot_lt (t := tt) (key := key) (by omega)
     have hsb : 0 ≤ Tab.slotOf tt key ∧ Tab.slotOf tt key < (tt.length : Int) := ⟨by omega, hsl⟩
     refine c_seq (c_region ?_)
     refine o_mv rfl rfl ?_
     refine o_mv rfl rfl ?_
     refine o_p (p_indexAddr (L := tt) (T := tSlot) (i := (Tab.slotOf tt key)) rfl rfl (rd_base (i := 6) rfl htt) Try.underlying22 sz33 (by omega) (by omega)) ?_
     refine o_p (p_fieldAddrE rfl fo33_2) ?_
     refine o_p (p_loadF (i := (Tab.slotOf tt key).toNat) (j := 2) (T := tSlot) (L := tt) (v := Vi ((tt.getD ((Tab.slotOf tt key).toNat) default).value)) rfl (rd_base (i := 6) rfl htt) (by first | assumption | omega) sh3 (congrArg (fun z => (tSlot.enc z)[2]?) (getd_at (by first | assumption | omega) default))) ?_
     refine o_as rfl rfl ?_
     refine o_nil (q_then (c_seq (c_region ?_)))
     refine o_mv rfl rfl ?_
     refine o_mv rfl rfl ?_
     refine o_mv rfl rfl ?_
     refine o_p (p_len_slice rfl rfl Try.underlying22) ?_
     refine o_call0 (v := Vi (Tab.home key (tt.length : Int))) rfl (homeOf_ok key (tt.length : Int) (by first | assumption | omega | exact Tab.key_le hz (by omega) | exact hy1.2)) hf21 (fun _ _ => trivial) rfl ?_
     refine o_p (p_subb rfl rfl (Tab.in1 hsb hhb hn64)) ?_
     refine o_mv rfl rfl ?_
     refine o_p (p_len_slice rfl rfl Try.underlying22) ?_
     refine o_p (p_addb rfl rfl (Tab.in2 hsb hhb hn64)) ?_
     refine o_mv rfl rfl ?_
     refine o_p (p_len_slice rfl rfl Try.underlying22) ?_
     refine o_p (p_rem (p := (((Tab.slotOf tt key) - (Tab.home key (tt.length : Int))) + (tt.length : Int))) (q := (tt.length : Int)) rfl rfl (by omega)) ?_
     refine o_p (p_addb rfl rfl (Tab.in3 hsb hhb hn64)) ?_
     refine o_as rfl rfl ?_
     refine o_nil (q_then (c_region ?_))
     refine o_mv rfl rfl ?_
     refine o_mv rfl rfl ?_
     refine o_callM rfl (tableDrop_ok tt att ctt key (by first | assumption | exact ⟨hTok, by omega⟩)) hf22 (fun w hw => (rd_base (i := 6) rfl htt) w hw) rfl (fun _ _ _ _ ha hA => SlO.agree ha hA) ?_
     rintro ⟨a109, c110⟩ S107
     refine o_know (fun w hw => own_len (i := 0) (T := tSlot) hw rfl) (fun hlr111 => ?_)
     refine o_as rfl rfl ?_
     refine o_nil (q_then (c_seq (c_region ?_)))
     refine o_as rfl rfl ?_
     refine o_nil (q_then (c_seq (c_seq (c_region ?_))))
     refine o_mv rfl rfl ?_
     refine o_p (p_len_string rfl rfl Try.underlying9) ?_
     refine o_p (p_gt rfl rfl) ?_
     refine o_mv rfl rfl ?_
     refine o_or (p := 98) 3 (decide (value < (-1099511627776))) ?_ ?_ ?_
     ·intro hb112 hk
      simp only [decide_eq_false_iff_not, Int.not_lt] at hb112
      refine o_unguard 95 rfl rfl ?_
      refine o_mv rfl rfl ?_
      refine o_unguard 95 rfl rfl ?_
      refine o_p (p_lt rfl rfl) ?_
      refine o_pf rfl rfl rfl ?_
      exact o_sub (sr (Sub.skip rfl (Sub.skip rfl (Sub.skip rfl (Sub.skip rfl (Sub.refl _)))))) hk
     ·intro hb112 hk
      refine o_guard_no rfl 95 rfl rfl rfl rfl rfl ?_
      refine o_guard_no rfl 95 rfl rfl rfl rfl rfl ?_
      refine o_pt rfl rfl rfl ?_
      exact o_sub (sr (Sub.skip rfl (Sub.skip rfl (Sub.skip rfl (Sub.skip rfl (Sub.refl _)))))) hk
     refine o_mv rfl rfl ?_
     refine o_or (p := 102) 3 (decide (1099511627776 < value)) ?_ ?_ ?_
     ·intro hb113 hk
      simp only [Bool.or_eq_false_iff, decide_eq_false_iff_not, Int.not_lt] at hb113
      refine o_unguard 99 rfl rfl ?_
      refine o_mv rfl rfl ?_
      refine o_unguard 99 rfl rfl ?_
      refine o_p (p_gt rfl rfl) ?_
      refine o_pf rfl rfl rfl ?_
      exact o_sub (sr (Sub.skip rfl (Sub.skip rfl (Sub.skip rfl (Sub.skip rfl (Sub.refl _)))))) hk
     ·intro hb113 hk
      refine o_guard_no rfl 99 rfl rfl rfl rfl rfl ?_
      refine o_guard_no rfl 99 rfl rfl rfl rfl rfl ?_
      refine o_pt rfl rfl rfl ?_
      exact o_sub (sr (Sub.skip rfl (Sub.skip rfl (Sub.skip rfl (Sub.skip rfl (Sub.refl _)))))) hk
     refine o_nil (q_then ?_)
     refine c_cond rfl (fun hc114 => ?_) (fun hc114 => ?_)
     ·simp only [Bool.or_eq_true, decide_eq_true_eq] at hc114
      refine c_region ?_
      refine o_as rfl rfl ?_
      refine o_nil (q_then (c_seq (c_region ?_)))
      refine o_mv rfl rfl ?_
      refine o_p (p_lt rfl rfl) ?_
      refine o_mv rfl rfl ?_
      refine o_or (p := 117) 3 (decide (64 < slots)) ?_ ?_ ?_
      ·intro hb115 hk
       simp only [decide_eq_false_iff_not, Int.not_lt] at hb115
       refine o_unguard 114 rfl rfl ?_
       refine o_mv rfl rfl ?_
       refine o_unguard 114 rfl rfl ?_
       refine o_p (p_gt rfl rfl) ?_
       refine o_pf rfl rfl rfl ?_
       exact o_sub (sr (Sub.skip rfl (Sub.skip rfl (Sub.skip rfl (Sub.skip rfl (Sub.refl _)))))) hk
      ·intro hb115 hk
       refine o_guard_no rfl 114 rfl rfl rfl rfl rfl ?_
       refine o_guard_no rfl 114 rfl rfl rfl rfl rfl ?_
       refine o_pt rfl rfl rfl ?_
       exact o_sub (sr (Sub.skip rfl (Sub.skip rfl (Sub.skip rfl (Sub.skip rfl (Sub.refl _)))))) hk
      refine o_nil (q_then ?_)
      refine c_cond rfl (fun hc116 => ?_) (fun hc116 => ?_)
      ·simp only [Bool.or_eq_true, decide_eq_true_eq] at hc116
       refine c_region ?_
       refine o_as rfl rfl ?_
       refine o_nil ?_
       refine q_heap (H' := [loose tSlot (False) S107 a109 c110 (Tab.drop tt key), loose tSlot (False) (fun _ => False) none 0 ([] : List DSlot), loose tSlot (False) (fun _ => False) none 0 ([] : List DSlot), loose tSlot (False) (fun _ => False) none 0 ([] : List DSlot), own tSlot S11 a13 c14 (Tab.sizeR tt slots), own tSlot S6 a8 c9 (Tab.delR tt key), own tSlot S1 a3 c4 (Tab.putR tt key value), base w0]) (fun w hw => HeapIs.toLoose (i := 0) (T := tSlot) rfl hw) ?_
       refine q_join hK19 ((Tab.check tt), 3, 3, (tt.getD ((Tab.slotOf tt key).toNat) default).value, (((((Tab.slotOf tt key) - (Tab.home key (tt.length : Int))) + (tt.length : Int)).tmod (tt.length : Int)) + 1), ([] : List DSlot), none, 0, (fun _ => False), (Tab.drop tt key), a109, c110, S107, ([] : List DSlot), none, 0, (fun _ => False)) ?_ (sr (sr (sr (sr (sr (sr (sr (sr (sr (sr (sr (sr (sr (sr (sr (sr (sr (sr (sr (Sub.nil _)))))))))))))))))))) (pk [1, 0, 3, 4, 5, 6, 7])
       clear hK19
       refine ⟨?_, ?_, ?_⟩
       ·first | exact Tab.s_v0 key hck | exact Tab.s_v1 hck (by omega) | exact Tab.s_v2 hck (by omega) (by omega) | exact Tab.s_v3 hck (by omega) (by omega)
       ·first | exact Tab.s_u0 key value hck | exact Tab.s_u1 hck (by omega) | exact Tab.s_u2 hck (by omega) (by omega) | exact Tab.s_u3 hck (by omega) (by omega)
       ·first | exact Tab.s_o0 slots hck | exact Tab.s_o1 hck (by omega) | exact hI.done hck (by omega) (by omega)
      ·simp only [Bool.or_eq_false_iff, decide_eq_false_iff_not, Int.not_lt] at hc116
       refine c_seq (c_region ?_)
       refine o_mv rfl rfl ?_
       refine o_makeSlice (T := tSlot) (m := slots) (z := (⟨false, ByteArray.empty, 0⟩ : DSlot)) rfl rfl Try.underlying22 el33 ze33 rfl (by decide) (by omega) (by omega) rfl (fun S118 a117 => ?_)
       refine o_as rfl rfl ?_
       refine o_nil (q_then (c_seq (c_region ?_)))
       refine o_as rfl rfl ?_
       refine o_nil (q_then (c_block ?_))
       refine c_heap (H' := [loose tSlot (False) S118 a117 slots.toNat (List.replicate slots.toNat (⟨false, ByteArray.empty, 0⟩ : DSlot)), own tSlot S107 a109 c110 (Tab.drop tt key), loose tSlot (False) (fun _ => False) none 0 ([] : List DSlot), loose tSlot (False) (fun _ => False) none 0 ([] : List DSlot), loose tSlot (False) (fun _ => False) none 0 ([] : List DSlot), own tSlot S11 a13 c14 (Tab.sizeR tt slots), own tSlot S6 a8 c9 (Tab.delR tt key), own tSlot S1 a3 c4 (Tab.putR tt key value), base w0]) (fun w hw => HeapIs.toLoose (i := 0) (T := tSlot) rfl hw) ?_
       refine c_loop (St := Int × List DSlot × Option Addr × Nat × (Nat → Prop) × Nat)
        (fun ⟨o, grown, agrown, cgrown, Sgrown, i⟩ => [(0, .slice att tt.length ctt), (9, Vi (Tab.has tt key)), (10, Vi (Tab.looked tt key)), (11, Vi (Tab.keyErr tt key)), (12, .slice a3 (Tab.putR tt key value).length c4), (13, Vi (Tab.putErr tt key value)), (14, .slice a8 (Tab.delR tt key).length c9), (15, Vi (Tab.keyErr tt key)), (16, .slice a13 (Tab.sizeR tt slots).length c14), (17, Vi (Tab.sizeErr tt slots)), (18, Vi (Tab.check tt)), (19, Vi (Tab.check tt)), (20, Vi 3), (21, Vi o), (22, Vi ((tt.getD ((Tab.slotOf tt key).toNat) default).value)), (23, Vi (((((Tab.slotOf tt key) - (Tab.home key (tt.length : Int))) + (tt.length : Int)).tmod (tt.length : Int)) + 1)), (24, .slice none ([] : List DSlot).length 0), (25, .slice a109 (Tab.drop tt key).length c110), (26, .slice agrown grown.length cgrown), (29, Vi (i : Int))])
        (fun ⟨o, grown, agrown, cgrown, Sgrown, i⟩ => [loose tSlot (False) Sgrown agrown cgrown grown, own tSlot S107 a109 c110 (Tab.drop tt key), loose tSlot (False) (fun _ => False) none 0 ([] : List DSlot), loose tSlot (False) (fun _ => False) none 0 ([] : List DSlot), loose tSlot (False) (fun _ => False) none 0 ([] : List DSlot), own tSlot S11 a13 c14 (Tab.sizeR tt slots), own tSlot S6 a8 c9 (Tab.delR tt key), own tSlot S1 a3 c4 (Tab.putR tt key value), base w0])
        (fun ⟨o, grown, agrown, cgrown, Sgrown, i⟩ => Tab.GI tt slots grown o i)
        (fun ⟨o, grown, agrown, cgrown, Sgrown, i⟩ => tt.length - i)
        ((Tab.check tt), (List.replicate slots.toNat (⟨false, ByteArray.empty, 0⟩ : DSlot)), a117, slots.toNat, S118, 0) ?_ (sr (sr (sr (sr (sr (sr (sr (sr (sr (sr (sr (sr (sr (sr (sr (sr (sr (sr (sr (sr (Sub.nil _))))))))))))))))))))) (fun _ hw => hw) ?_
       ·exact Tab.GI.start2 (by omega) (by omega)
       rintro ⟨o, grown, agrown, cgrown, Sgrown, i⟩ hI K hK120
       have hle := hI.le
       show SC _ _ Try.prog 205 w0 _ _ [(0, .slice att tt.length ctt), (9, Vi (Tab.has tt key)), (10, Vi (Tab.looked tt key)), (11, Vi (Tab.keyErr tt key)), (12, .slice a3 (Tab.putR tt key value).length c4), (13, Vi (Tab.putErr tt key value)), (14, .slice a8 (Tab.delR tt key).length c9), (15, Vi (Tab.keyErr tt key)), (16, .slice a13 (Tab.sizeR tt slots).length c14), (17, Vi (Tab.sizeErr tt slots)), (18, Vi (Tab.check tt)), (19, Vi (Tab.check tt)), (20, Vi 3), (21, Vi o), (22, Vi ((tt.getD ((Tab.slotOf tt key).toNat) default).value)), (23, Vi (((((Tab.slotOf tt key) - (Tab.home key (tt.length : Int))) + (tt.length : Int)).tmod (tt.length : Int)) + 1)), (24, .slice none ([] : List DSlot).length 0), (25, .slice a109 (Tab.drop tt key).length c110), (26, .slice agrown grown.length cgrown), (29, Vi (i : Int))] [loose tSlot (False) Sgrown agrown cgrown grown, own tSlot S107 a109 c110 (Tab.drop tt key), loose tSlot (False) (fun _ => False) none 0 ([] : List DSlot), loose tSlot (False) (fun _ => False) none 0 ([] : List DSlot), loose tSlot (False) (fun _ => False) none 0 ([] : List DSlot), own tSlot S11 a13 c14 (Tab.sizeR tt slots), own tSlot S6 a8 c9 (Tab.delR tt key), own tSlot S1 a3 c4 (Tab.putR tt key value), base w0]
       refine c_seq (c_seq (c_region ?_))
       refine o_mv rfl rfl ?_
       refine o_mv rfl rfl ?_
       refine o_p (p_len_slice rfl rfl Try.underlying22) ?_
       refine o_p (p_lt rfl rfl) ?_
       refine o_mv rfl rfl ?_
       refine o_and (p := 127) 3 (o == 0) ?_ ?_ ?_
       ·intro hb121 hk
        simp only [decide_eq_true_eq] at hb121
        refine o_unguard 124 rfl rfl ?_
        refine o_mv rfl rfl ?_
        refine o_unguard 124 rfl rfl ?_
        refine o_p (p_eq rfl rfl) ?_
        refine o_pt rfl rfl rfl ?_
        exact o_sub (sr (Sub.skip rfl (Sub.skip rfl (Sub.skip rfl (Sub.skip rfl (Sub.refl _)))))) hk
       ·intro hb121 hk
        refine o_guard_no rfl 124 rfl rfl rfl rfl rfl ?_
        refine o_guard_no rfl 124 rfl rfl rfl rfl rfl ?_
        refine o_pf rfl rfl rfl ?_
        exact o_sub (sr (Sub.skip rfl (Sub.skip rfl (Sub.skip rfl (Sub.skip rfl (Sub.refl _)))))) hk
       refine o_nil (q_then ?_)
       refine c_cond rfl (fun hc122 => ?_) (fun hc122 => ?_)
       ·simp only [Bool.and_eq_true, decide_eq_true_eq, beq_iff_eq] at hc122
        refine c_skip (q_then (c_seq (c_block (c_seq (c_seq (c_region ?_))))))
        refine o_mv rfl rfl ?_
        refine o_mv rfl rfl ?_
        refine o_p (p_indexAddr (L := tt) (T := tSlot) (i := (i : Int)) rfl rfl (rd_base (i := 8) rfl htt) Try.underlying22 sz33 (by omega) (by omega)) ?_
        refine o_p (p_fieldAddrE rfl fo33_0) ?_
        refine o_p (p_loadF (i := i) (j := 0) (T := tSlot) (L := tt) (v := .bool ((tt.getD i default).used)) rfl (rd_base (i := 8) rfl htt) (by first | assumption | omega) sh4 (congrArg (fun z => (tSlot.enc z)[0]?) (getd_at (by first | assumption | omega) default))) ?_
        refine o_p (p_not (b := (tt.getD i default).used) rfl) ?_
        refine o_nil (q_then ?_)
        refine c_cond rfl (fun hc123 => ?_) (fun hc123 => ?_)
        ·simp only [Bool.not_eq_true'] at hc123
         have hu := hc123
         refine c_exit ?_
         refine q_then_exit (q_block_exit (q_then ?_))
         refine c_region ?_
         refine o_mv rfl rfl ?_
         refine o_p (p_addb rfl rfl (by omega)) ?_
         refine o_as rfl rfl ?_
         refine o_nil ?_
         refine q_round hK120 (o, grown, agrown, cgrown, Sgrown, i + 1) ?_ ?_ ?_ ?_
         ·clear hK120
          first | exact hI.skip2 (by omega) (by omega) hu | exact hI.add2 hTok (by omega) (by omega) hu (by simpa using hpt) | exact hI.full2 hck (by omega) (by omega) (by omega) hu (by simpa using hpt)
         ·(try dsimp only); omega
         ·exact sr (sr (sr (sr (sr (sr (sr (sr (sr (sr (sr (sr (sr (sr (sr (sr (sr (sr (sr (sr (Sub.nil _))))))))))))))))))))
         ·exact pk [0, 1, 2, 3, 4, 5, 6, 7, 8]
        ·simp only [Bool.not_eq_false'] at hc123
         have hu := hc123
         refine c_skip (q_then (c_seq ?_))
         refine c_held hmix [loose tSlot (False) Sgrown agrown cgrown grown, own tSlot S107 a109 c110 (Tab.drop tt key), loose tSlot (False) (fun _ => False) none 0 ([] : List DSlot), loose tSlot (False) (fun _ => False) none 0 ([] : List DSlot), loose tSlot (False) (fun _ => False) none 0 ([] : List DSlot), own tSlot S11 a13 c14 (Tab.sizeR tt slots), own tSlot S6 a8 c9 (Tab.delR tt key), own tSlot S1 a3 c4 (Tab.putR tt key value), base w0] rfl rfl ?_
         refine h_t0 (i := 0) (ls := #[T1,F0,F0,F0,F0,F0,F0,F0,F0,F0,F0,F0,F0,F0,F0,F0,F0]) rfl (p_move rfl) ?_
         refine h_t0 (i := 1) (ls := #[T1,T1,F0,F0,F0,F0,F0,F0,F0,F0,F0,F0,F0,F0,F0,F0,F0]) rfl (p_move rfl) ?_
         refine h_t0 (i := 2) (ls := #[T1,T1,T1,F0,F0,F0,F0,F0,F0,F0,F0,F0,F0,F0,F0,F0,F0]) rfl (p_move rfl) ?_
         refine h_t0 (i := 3) (ls := #[T1,T1,T1,T1,F0,F0,F0,F0,F0,F0,F0,F0,F0,F0,F0,F0,F0]) rfl (p_indexAddr (L := tt) (T := tSlot) (i := (i : Int)) rfl rfl (rd_base (i := 8) rfl htt) Try.underlying22 sz33 (by omega) (by omega)) ?_
         refine h_t0 (i := 4) (ls := #[T1,T1,T1,T1,T1,F0,F0,F0,F0,F0,F0,F0,F0,F0,F0,F0,F0]) rfl (p_fieldAddrE rfl fo33_1) ?_
         refine h_t0 (i := 5) (ls := #[T1,T1,T1,T1,T1,T1,F0,F0,F0,F0,F0,F0,F0,F0,F0,F0,F0]) rfl (p_loadF (i := i) (j := 1) (T := tSlot) (L := tt) (v := .string ((tt.getD i default).key)) rfl (rd_base (i := 8) rfl htt) (by first | assumption | omega) sh9 (congrArg (fun z => (tSlot.enc z)[1]?) (getd_at (by first | assumption | omega) default))) ?_
         refine h_t0 (i := 6) (ls := #[T1,T1,T1,T1,T1,T1,T1,F0,F0,F0,F0,F0,F0,F0,F0,F0,F0]) rfl (p_move rfl) ?_
         refine h_t0 (i := 7) (ls := #[T1,T1,T1,T1,T1,T1,T1,T1,F0,F0,F0,F0,F0,F0,F0,F0,F0]) rfl (p_move rfl) ?_
         refine h_t0 (i := 8) (ls := #[T1,T1,T1,T1,T1,T1,T1,T1,T1,F0,F0,F0,F0,F0,F0,F0,F0]) rfl (p_indexAddr (L := tt) (T := tSlot) (i := (i : Int)) rfl rfl (rd_base (i := 8) rfl htt) Try.underlying22 sz33 (by omega) (by omega)) ?_
         refine h_t0 (i := 9) (ls := #[T1,T1,T1,T1,T1,T1,T1,T1,T1,T1,F0,F0,F0,F0,F0,F0,F0]) rfl (p_fieldAddrE rfl fo33_2) ?_
         refine h_t0 (i := 10) (ls := #[T1,T1,T1,T1,T1,T1,T1,T1,T1,T1,T1,F0,F0,F0,F0,F0,F0]) rfl (p_loadF (i := i) (j := 2) (T := tSlot) (L := tt) (v := Vi ((tt.getD i default).value)) rfl (rd_base (i := 8) rfl htt) (by first | assumption | omega) sh3 (congrArg (fun z => (tSlot.enc z)[2]?) (getd_at (by first | assumption | omega) default))) ?_
         refine h_one (i := 11) (ls := #[T1,T1,T1,T1,T1,T1,T1,T1,T1,T1,T1,T1,F0,F0,F0,F0,F0]) (by kernel_rfl) rfl rfl ?_
         refine o_callM rfl (tablePut_ok grown agrown cgrown ((tt.getD i default).key) ((tt.getD i default).value) (by first | assumption | exact ⟨hTok, by omega⟩ | exact ⟨hI.ok (by omega), Tab.key_le (Tab.ck_go hck) (by omega)⟩)) hf23 (fun w hw => (rd_loose (i := 0) rfl (fun hφ => hφ.elim)) w hw) rfl (fun _ _ _ _ ha hA => SlO.agree ha hA) ?_
         rintro ⟨a124_11, c124_11⟩ S124_11
         refine o_know (fun w hw => own_len (i := 0) (T := tSlot) hw rfl) (fun hlr124_11 => ?_)
         refine o_nil ?_
         refine h_next (dp (lz (lj (lj (lj (lj (lj (lj (lj (lj (lj (ln)))))))))))) ?_
         refine h_tk (i := 12) (ls := #[T1,T1,T1,T1,T1,T1,T1,T1,T1,T1,T1,T1,T1,F0,F0,F0,F0]) rfl (p_move rfl) (dp (lz (lj (lj (lj (lj (lj (lj (lj (lj (lj (ln)))))))))))) ?_
         refine h_tk (i := 13) (ls := #[T1,T1,T1,T1,T1,T1,T1,T1,T1,T1,T1,T1,T1,T1,F0,F0,F0]) rfl (p_extract rfl rfl) (dp (lz (lj (lj (lj (lj (lj (lj (lj (lj (lj (ln)))))))))))) ?_
         refine h_tk (i := 14) (ls := #[T1,T1,T1,T1,T1,T1,T1,T1,T1,T1,T1,T1,T1,T1,T1,F0,F0]) rfl (p_extract rfl rfl) (dp (lz (lj (lj (lj (lj (lj (lj (lj (lj (lj (ln)))))))))))) ?_
         refine h_tk (i := 15) (ls := #[T1,T1,T1,T1,T1,T1,T1,T1,T1,T1,T1,T1,T1,T1,T1,T1,F0]) rfl (p_assign rfl) (dp (lz (lj (lj (lj (lj (lj (lj (lj (lj (lj (ln)))))))))))) ?_
         refine h_tk (i := 16) (ls := #[T1,T1,T1,T1,T1,T1,T1,T1,T1,T1,T1,T1,T1,T1,T1,T1,T1]) rfl (p_assign rfl) (dp (lz (lj (lj (lj (lj (lj (lj (lj (lj (lj (ln)))))))))))) ?_
         refine h_done (by kernel_rfl) ?_
         refine q_then (c_seq (c_region ?_))
         refine o_mv rfl rfl ?_
         refine o_p (p_not (b := (!decide (Tab.putAt grown ((tt.getD i default).key) < 0))) rfl) ?_
         refine o_nil (q_then ?_)
         refine c_cond rfl (fun hc125 => ?_) (fun hc125 => ?_)
         ·simp only [Bool.not_eq_true', Bool.not_eq_false', decide_eq_true_eq] at hc125
          have hpt := hc125
          refine c_region ?_
          refine o_as rfl rfl ?_
          refine o_nil ?_
          refine q_block_normal (q_then ?_)
          refine c_region ?_
          refine o_mv rfl rfl ?_
          refine o_p (p_addb rfl rfl (by omega)) ?_
          refine o_as rfl rfl ?_
          refine o_nil ?_
          refine q_heap (H' := [loose tSlot (False) S124_11 a124_11 c124_11 (Tab.putT grown ((tt.getD i default).key) ((tt.getD i default).value)), loose tSlot (False) Sgrown agrown cgrown grown, own tSlot S107 a109 c110 (Tab.drop tt key), loose tSlot (False) (fun _ => False) none 0 ([] : List DSlot), loose tSlot (False) (fun _ => False) none 0 ([] : List DSlot), loose tSlot (False) (fun _ => False) none 0 ([] : List DSlot), own tSlot S11 a13 c14 (Tab.sizeR tt slots), own tSlot S6 a8 c9 (Tab.delR tt key), own tSlot S1 a3 c4 (Tab.putR tt key value), base w0]) (fun w hw => HeapIs.toLoose (i := 0) (T := tSlot) rfl hw) ?_
          refine q_round hK120 (8, (Tab.putT grown ((tt.getD i default).key) ((tt.getD i default).value)), a124_11, c124_11, S124_11, i + 1) ?_ ?_ ?_ ?_
          ·clear hK120
           first | exact hI.skip2 (by omega) (by omega) hu | exact hI.add2 hTok (by omega) (by omega) hu (by simpa using hpt) | exact hI.full2 hck (by omega) (by omega) (by omega) hu (by simpa using hpt)
          ·(try dsimp only); omega
          ·exact sr (sr (sr (sr (sr (sr (sr (sr (sr (sr (sr (sr (sr (sr (sr (sr (sr (sr (sr (sr (Sub.nil _))))))))))))))))))))
          ·exact pk [0, 2, 3, 4, 5, 6, 7, 8, 9]
         ·simp only [Bool.not_eq_false', Bool.not_eq_true', decide_eq_false_iff_not, Int.not_lt] at hc125
          have hpt := hc125
          refine c_skip ?_
          refine q_block_normal (q_then ?_)
          refine c_region ?_
          refine o_mv rfl rfl ?_
          refine o_p (p_addb rfl rfl (by omega)) ?_
          refine o_as rfl rfl ?_
          refine o_nil ?_
          refine q_heap (H' := [loose tSlot (False) S124_11 a124_11 c124_11 (Tab.putT grown ((tt.getD i default).key) ((tt.getD i default).value)), loose tSlot (False) Sgrown agrown cgrown grown, own tSlot S107 a109 c110 (Tab.drop tt key), loose tSlot (False) (fun _ => False) none 0 ([] : List DSlot), loose tSlot (False) (fun _ => False) none 0 ([] : List DSlot), loose tSlot (False) (fun _ => False) none 0 ([] : List DSlot), own tSlot S11 a13 c14 (Tab.sizeR tt slots), own tSlot S6 a8 c9 (Tab.delR tt key), own tSlot S1 a3 c4 (Tab.putR tt key value), base w0]) (fun w hw => HeapIs.toLoose (i := 0) (T := tSlot) rfl hw) ?_
          refine q_round hK120 (o, (Tab.putT grown ((tt.getD i default).key) ((tt.getD i default).value)), a124_11, c124_11, S124_11, i + 1) ?_ ?_ ?_ ?_
          ·clear hK120
           first | exact hI.skip2 (by omega) (by omega) hu | exact hI.add2 hTok (by omega) (by omega) hu (by simpa using hpt) | exact hI.full2 hck (by omega) (by omega) (by omega) hu (by simpa using hpt)
          ·(try dsimp only); omega
          ·exact sr (sr (sr (sr (sr (sr (sr (sr (sr (sr (sr (sr (sr (sr (sr (sr (sr (sr (sr (sr (Sub.nil _))))))))))))))))))))
          ·exact pk [0, 2, 3, 4, 5, 6, 7, 8, 9]
       ·simp only [Bool.and_eq_false_iff, decide_eq_false_iff_not, Int.not_lt, beq_eq_false_iff_ne, ne_eq] at hc122
        refine c_exit ?_
        refine q_then_exit (q_then_exit (q_block_exit ?_))
        refine q_heap (H' := [loose tSlot (False) Sgrown agrown cgrown grown, loose tSlot (False) S107 a109 c110 (Tab.drop tt key), loose tSlot (False) (fun _ => False) none 0 ([] : List DSlot), loose tSlot (False) (fun _ => False) none 0 ([] : List DSlot), loose tSlot (False) (fun _ => False) none 0 ([] : List DSlot), own tSlot S11 a13 c14 (Tab.sizeR tt slots), own tSlot S6 a8 c9 (Tab.delR tt key), own tSlot S1 a3 c4 (Tab.putR tt key value), base w0]) (fun w hw => HeapIs.toLoose (i := 1) (T := tSlot) rfl hw) ?_
        refine q_join hK19 ((Tab.check tt), 3, o, (tt.getD ((Tab.slotOf tt key).toNat) default).value, (((((Tab.slotOf tt key) - (Tab.home key (tt.length : Int))) + (tt.length : Int)).tmod (tt.length : Int)) + 1), ([] : List DSlot), none, 0, (fun _ => False), (Tab.drop tt key), a109, c110, S107, grown, agrown, cgrown, Sgrown) ?_ (sr (sr (sr (sr (sr (sr (sr (sr (sr (sr (sr (sr (sr (sr (sr (sr (sr (sr (sr (Sub.nil _)))))))))))))))))))) (pk [0, 1, 4, 5, 6, 7, 8])
        clear hK19
        refine ⟨?_, ?_, ?_⟩
        ·first | exact Tab.s_v0 key hck | exact Tab.s_v1 hck (by omega) | exact Tab.s_v2 hck (by omega) (by omega) | exact Tab.s_v3 hck (by omega) (by omega)
        ·first | exact Tab.s_u0 key value hck | exact Tab.s_u1 hck (by omega) | exact Tab.s_u2 hck (by omega) (by omega) | exact Tab.s_u3 hck (by omega) (by omega)
        ·first | exact Tab.s_o0 slots hck | exact Tab.s_o1 hck (by omega) | exact hI.done hck (by omega) (by omega)
     ·simp only [Bool.or_eq_false_iff, decide_eq_false_iff_not, Int.not_lt] at hc114
      refine c_seq (c_region ?_)
      refine o_mv rfl rfl ?_
      refine o_mv rfl rfl ?_
      refine o_mv rfl rfl ?_
      refine o_callM rfl (tablePut_ok tt att ctt key value (by first | assumption | exact ⟨hTok, by omega⟩ | exact ⟨hI.ok (by omega), Tab.key_le (Tab.ck_go hck) (by omega)⟩)) hf23 (fun w hw => (rd_base (i := 7) rfl htt) w hw) rfl (fun _ _ _ _ ha hA => SlO.agree ha hA) ?_
      rintro ⟨a128, c129⟩ S126
      refine o_know (fun w hw => own_len (i := 0) (T := tSlot) hw rfl) (fun hlr130 => ?_)
      refine o_mv rfl rfl ?_
      refine o_ex rfl rfl rfl ?_
      refine o_ex rfl rfl rfl ?_
      refine o_as rfl rfl ?_
      refine o_as rfl rfl ?_
      refine o_nil (q_then (c_seq (c_region ?_)))
      refine o_mv rfl rfl ?_
      refine o_p (p_not (b := (!decide (Tab.putAt tt key < 0))) rfl) ?_
      refine o_nil (q_then ?_)
      refine c_cond rfl (fun hc131 => ?_) (fun hc131 => ?_)
      ·simp only [Bool.not_eq_true', Bool.not_eq_false', decide_eq_true_eq] at hc131
       have hpt := hc131
       refine c_region ?_
       refine o_as rfl rfl ?_
       refine o_nil (q_then (c_seq (c_region ?_)))
       refine o_mv rfl rfl ?_
       refine o_p (p_lt rfl rfl) ?_
       refine o_mv rfl rfl ?_
       refine o_or (p := 117) 3 (decide (64 < slots)) ?_ ?_ ?_
       ·intro hb132 hk
        simp only [decide_eq_false_iff_not, Int.not_lt] at hb132
        refine o_unguard 114 rfl rfl ?_
        refine o_mv rfl rfl ?_
        refine o_unguard 114 rfl rfl ?_
        refine o_p (p_gt rfl rfl) ?_
        refine o_pf rfl rfl rfl ?_
        exact o_sub (sr (Sub.skip rfl (Sub.skip rfl (Sub.skip rfl (Sub.skip rfl (Sub.refl _)))))) hk
       ·intro hb132 hk
        refine o_guard_no rfl 114 rfl rfl rfl rfl rfl ?_
        refine o_guard_no rfl 114 rfl rfl rfl rfl rfl ?_
        refine o_pt rfl rfl rfl ?_
        exact o_sub (sr (Sub.skip rfl (Sub.skip rfl (Sub.skip rfl (Sub.skip rfl (Sub.refl _)))))) hk
       refine o_nil (q_then ?_)
       refine c_cond rfl (fun hc133 => ?_) (fun hc133 => ?_)
       ·simp only [Bool.or_eq_true, decide_eq_true_eq] at hc133
        refine c_region ?_
        refine o_as rfl rfl ?_
        refine o_nil ?_
        refine q_heap (H' := [loose tSlot (False) S126 a128 c129 (Tab.putT tt key value), own tSlot S107 a109 c110 (Tab.drop tt key), loose tSlot (False) (fun _ => False) none 0 ([] : List DSlot), loose tSlot (False) (fun _ => False) none 0 ([] : List DSlot), loose tSlot (False) (fun _ => False) none 0 ([] : List DSlot), own tSlot S11 a13 c14 (Tab.sizeR tt slots), own tSlot S6 a8 c9 (Tab.delR tt key), own tSlot S1 a3 c4 (Tab.putR tt key value), base w0]) (fun w hw => HeapIs.toLoose (i := 0) (T := tSlot) rfl hw) ?_
        refine q_heap (H' := [loose tSlot (False) S126 a128 c129 (Tab.putT tt key value), loose tSlot (False) S107 a109 c110 (Tab.drop tt key), loose tSlot (False) (fun _ => False) none 0 ([] : List DSlot), loose tSlot (False) (fun _ => False) none 0 ([] : List DSlot), loose tSlot (False) (fun _ => False) none 0 ([] : List DSlot), own tSlot S11 a13 c14 (Tab.sizeR tt slots), own tSlot S6 a8 c9 (Tab.delR tt key), own tSlot S1 a3 c4 (Tab.putR tt key value), base w0]) (fun w hw => HeapIs.toLoose (i := 1) (T := tSlot) rfl hw) ?_
        refine q_join hK19 ((Tab.check tt), 8, 3, (tt.getD ((Tab.slotOf tt key).toNat) default).value, (((((Tab.slotOf tt key) - (Tab.home key (tt.length : Int))) + (tt.length : Int)).tmod (tt.length : Int)) + 1), (Tab.putT tt key value), a128, c129, S126, (Tab.drop tt key), a109, c110, S107, ([] : List DSlot), none, 0, (fun _ => False)) ?_ (sr (sr (sr (sr (sr (sr (sr (sr (sr (sr (sr (sr (sr (sr (sr (sr (sr (sr (sr (Sub.nil _)))))))))))))))))))) (pk [2, 1, 0, 5, 6, 7, 8])
        clear hK19
        refine ⟨?_, ?_, ?_⟩
        ·first | exact Tab.s_v0 key hck | exact Tab.s_v1 hck (by omega) | exact Tab.s_v2 hck (by omega) (by omega) | exact Tab.s_v3 hck (by omega) (by omega)
        ·first | exact Tab.s_u0 key value hck | exact Tab.s_u1 hck (by omega) | exact Tab.s_u2 hck (by omega) (by omega) | exact Tab.s_u3 hck (by omega) (by omega)
        ·first | exact Tab.s_o0 slots hck | exact Tab.s_o1 hck (by omega) | exact hI.done hck (by omega) (by omega)
       ·simp only [Bool.or_eq_false_iff, decide_eq_false_iff_not, Int.not_lt] at hc133
        refine c_seq (c_region ?_)
        refine o_mv rfl rfl ?_
        refine o_makeSlice (T := tSlot) (m := slots) (z := (⟨false, ByteArray.empty, 0⟩ : DSlot)) rfl rfl Try.underlying22 el33 ze33 rfl (by decide) (by omega) (by omega) rfl (fun S135 a134 => ?_)
        refine o_as rfl rfl ?_
        refine o_nil (q_then (c_seq (c_region ?_)))
        refine o_as rfl rfl ?_
        refine o_nil (q_then (c_block ?_))
        refine c_heap (H' := [loose tSlot (False) S135 a134 slots.toNat (List.replicate slots.toNat (⟨false, ByteArray.empty, 0⟩ : DSlot)), own tSlot S126 a128 c129 (Tab.putT tt key value), own tSlot S107 a109 c110 (Tab.drop tt key), loose tSlot (False) (fun _ => False) none 0 ([] : List DSlot), loose tSlot (False) (fun _ => False) none 0 ([] : List DSlot), loose tSlot (False) (fun _ => False) none 0 ([] : List DSlot), own tSlot S11 a13 c14 (Tab.sizeR tt slots), own tSlot S6 a8 c9 (Tab.delR tt key), own tSlot S1 a3 c4 (Tab.putR tt key value), base w0]) (fun w hw => HeapIs.toLoose (i := 0) (T := tSlot) rfl hw) ?_
        refine c_loop (St := Int × List DSlot × Option Addr × Nat × (Nat → Prop) × Nat)
         (fun ⟨o, grown, agrown, cgrown, Sgrown, i⟩ => [(0, .slice att tt.length ctt), (9, Vi (Tab.has tt key)), (10, Vi (Tab.looked tt key)), (11, Vi (Tab.keyErr tt key)), (12, .slice a3 (Tab.putR tt key value).length c4), (13, Vi (Tab.putErr tt key value)), (14, .slice a8 (Tab.delR tt key).length c9), (15, Vi (Tab.keyErr tt key)), (16, .slice a13 (Tab.sizeR tt slots).length c14), (17, Vi (Tab.sizeErr tt slots)), (18, Vi (Tab.check tt)), (19, Vi (Tab.check tt)), (20, Vi 8), (21, Vi o), (22, Vi ((tt.getD ((Tab.slotOf tt key).toNat) default).value)), (23, Vi (((((Tab.slotOf tt key) - (Tab.home key (tt.length : Int))) + (tt.length : Int)).tmod (tt.length : Int)) + 1)), (24, .slice a128 (Tab.putT tt key value).length c129), (25, .slice a109 (Tab.drop tt key).length c110), (26, .slice agrown grown.length cgrown), (29, Vi (i : Int))])
         (fun ⟨o, grown, agrown, cgrown, Sgrown, i⟩ => [loose tSlot (False) Sgrown agrown cgrown grown, own tSlot S126 a128 c129 (Tab.putT tt key value), own tSlot S107 a109 c110 (Tab.drop tt key), loose tSlot (False) (fun _ => False) none 0 ([] : List DSlot), loose tSlot (False) (fun _ => False) none 0 ([] : List DSlot), loose tSlot (False) (fun _ => False) none 0 ([] : List DSlot), own tSlot S11 a13 c14 (Tab.sizeR tt slots), own tSlot S6 a8 c9 (Tab.delR tt key), own tSlot S1 a3 c4 (Tab.putR tt key value), base w0])
         (fun ⟨o, grown, agrown, cgrown, Sgrown, i⟩ => Tab.GI tt slots grown o i)
         (fun ⟨o, grown, agrown, cgrown, Sgrown, i⟩ => tt.length - i)
         ((Tab.check tt), (List.replicate slots.toNat (⟨false, ByteArray.empty, 0⟩ : DSlot)), a134, slots.toNat, S135, 0) ?_ (sr (sr (sr (sr (sr (sr (sr (sr (sr (sr (sr (sr (sr (sr (sr (sr (sr (sr (sr (sr (Sub.nil _))))))))))))))))))))) (fun _ hw => hw) ?_
        ·exact Tab.GI.start2 (by omega) (by omega)
        rintro ⟨o, grown, agrown, cgrown, Sgrown, i⟩ hI K hK137
        have hle := hI.le
        show SC _ _ Try.prog 205 w0 _ _ [(0, .slice att tt.length ctt), (9, Vi (Tab.has tt key)), (10, Vi (Tab.looked tt key)), (11, Vi (Tab.keyErr tt key)), (12, .slice a3 (Tab.putR tt key value).length c4), (13, Vi (Tab.putErr tt key value)), (14, .slice a8 (Tab.delR tt key).length c9), (15, Vi (Tab.keyErr tt key)), (16, .slice a13 (Tab.sizeR tt slots).length c14), (17, Vi (Tab.sizeErr tt slots)), (18, Vi (Tab.check tt)), (19, Vi (Tab.check tt)), (20, Vi 8), (21, Vi o), (22, Vi ((tt.getD ((Tab.slotOf tt key).toNat) default).value)), (23, Vi (((((Tab.slotOf tt key) - (Tab.home key (tt.length : Int))) + (tt.length : Int)).tmod (tt.length : Int)) + 1)), (24, .slice a128 (Tab.putT tt key value).length c129), (25, .slice a109 (Tab.drop tt key).length c110), (26, .slice agrown grown.length cgrown), (29, Vi (i : Int))] [loose tSlot (False) Sgrown agrown cgrown grown, own tSlot S126 a128 c129 (Tab.putT tt key value), own tSlot S107 a109 c110 (Tab.drop tt key), loose tSlot (False) (fun _ => False) none 0 ([] : List DSlot), loose tSlot (False) (fun _ => False) none 0 ([] : List DSlot), loose tSlot (False) (fun _ => False) none 0 ([] : List DSlot), own tSlot S11 a13 c14 (Tab.sizeR tt slots), own tSlot S6 a8 c9 (Tab.delR tt key), own tSlot S1 a3 c4 (Tab.putR tt key value), base w0]
        refine c_seq (c_seq (c_region ?_))
        refine o_mv rfl rfl ?_
        refine o_mv rfl rfl ?_
        refine o_p (p_len_slice rfl rfl Try.underlying22) ?_
        refine o_p (p_lt rfl rfl) ?_
        refine o_mv rfl rfl ?_
        refine o_and (p := 127) 3 (o == 0) ?_ ?_ ?_
        ·intro hb138 hk
         simp only [decide_eq_true_eq] at hb138
         refine o_unguard 124 rfl rfl ?_
         refine o_mv rfl rfl ?_
         refine o_unguard 124 rfl rfl ?_
         refine o_p (p_eq rfl rfl) ?_
         refine o_pt rfl rfl rfl ?_
         exact o_sub (sr (Sub.skip rfl (Sub.skip rfl (Sub.skip rfl (Sub.skip rfl (Sub.refl _)))))) hk
        ·intro hb138 hk
         refine o_guard_no rfl 124 rfl rfl rfl rfl rfl ?_
         refine o_guard_no rfl 124 rfl rfl rfl rfl rfl ?_
         refine o_pf rfl rfl rfl ?_
         exact o_sub (sr (Sub.skip rfl (Sub.skip rfl (Sub.skip rfl (Sub.skip rfl (Sub.refl _)))))) hk
        refine o_nil (q_then ?_)
        refine c_cond rfl (fun hc139 => ?_) (fun hc139 => ?_)
        ·simp only [Bool.and_eq_true, decide_eq_true_eq, beq_iff_eq] at hc139
         refine c_skip (q_then (c_seq (c_block (c_seq (c_seq (c_region ?_))))))
         refine o_mv rfl rfl ?_
         refine o_mv rfl rfl ?_
         refine o_p (p_indexAddr (L := tt) (T := tSlot) (i := (i : Int)) rfl rfl (rd_base (i := 9) rfl htt) Try.underlying22 sz33 (by omega) (by omega)) ?_
         refine o_p (p_fieldAddrE rfl fo33_0) ?_
         refine o_p (p_loadF (i := i) (j := 0) (T := tSlot) (L := tt) (v := .bool ((tt.getD i default).used)) rfl (rd_base (i := 9) rfl htt) (by first | assumption | omega) sh4 (congrArg (fun z => (tSlot.enc z)[0]?) (getd_at (by first | assumption | omega) default))) ?_
         refine o_p (p_not (b := (tt.getD i default).used) rfl) ?_
         refine o_nil (q_then ?_)
         refine c_cond rfl (fun hc140 => ?_) (fun hc140 => ?_)
         ·simp only [Bool.not_eq_true'] at hc140
          have hu := hc140
          refine c_exit ?_
          refine q_then_exit (q_block_exit (q_then ?_))
          refine c_region ?_
          refine o_mv rfl rfl ?_
          refine o_p (p_addb rfl rfl (by omega)) ?_
          refine o_as rfl rfl ?_
          refine o_nil ?_
          refine q_round hK137 (o, grown, agrown, cgrown, Sgrown, i + 1) ?_ ?_ ?_ ?_
          ·clear hK137
           first | exact hI.skip2 (by omega) (by omega) hu | exact hI.add2 hTok (by omega) (by omega) hu (by simpa using hpt) | exact hI.full2 hck (by omega) (by omega) (by omega) hu (by simpa using hpt)
          ·(try dsimp only); omega
          ·exact sr (sr (sr (sr (sr (sr (sr (sr (sr (sr (sr (sr (sr (sr (sr (sr (sr (sr (sr (sr (Sub.nil _))))))))))))))))))))
          ·exact pk [0, 1, 2, 3, 4, 5, 6, 7, 8, 9]
         ·simp only [Bool.not_eq_false'] at hc140
          have hu := hc140
          refine c_skip (q_then (c_seq ?_))
          refine c_held hmix [loose tSlot (False) Sgrown agrown cgrown grown, own tSlot S126 a128 c129 (Tab.putT tt key value), own tSlot S107 a109 c110 (Tab.drop tt key), loose tSlot (False) (fun _ => False) none 0 ([] : List DSlot), loose tSlot (False) (fun _ => False) none 0 ([] : List DSlot), loose tSlot (False) (fun _ => False) none 0 ([] : List DSlot), own tSlot S11 a13 c14 (Tab.sizeR tt slots), own tSlot S6 a8 c9 (Tab.delR tt key), own tSlot S1 a3 c4 (Tab.putR tt key value), base w0] rfl rfl ?_
          refine h_t0 (i := 0) (ls := #[T1,F0,F0,F0,F0,F0,F0,F0,F0,F0,F0,F0,F0,F0,F0,F0,F0]) rfl (p_move rfl) ?_
          refine h_t0 (i := 1) (ls := #[T1,T1,F0,F0,F0,F0,F0,F0,F0,F0,F0,F0,F0,F0,F0,F0,F0]) rfl (p_move rfl) ?_
          refine h_t0 (i := 2) (ls := #[T1,T1,T1,F0,F0,F0,F0,F0,F0,F0,F0,F0,F0,F0,F0,F0,F0]) rfl (p_move rfl) ?_
          refine h_t0 (i := 3) (ls := #[T1,T1,T1,T1,F0,F0,F0,F0,F0,F0,F0,F0,F0,F0,F0,F0,F0]) rfl (p_indexAddr (L := tt) (T := tSlot) (i := (i : Int)) rfl rfl (rd_base (i := 9) rfl htt) Try.underlying22 sz33 (by omega) (by omega)) ?_
          refine h_t0 (i := 4) (ls := #[T1,T1,T1,T1,T1,F0,F0,F0,F0,F0,F0,F0,F0,F0,F0,F0,F0]) rfl (p_fieldAddrE rfl fo33_1) ?_
          refine h_t0 (i := 5) (ls := #[T1,T1,T1,T1,T1,T1,F0,F0,F0,F0,F0,F0,F0,F0,F0,F0,F0]) rfl (p_loadF (i := i) (j := 1) (T := tSlot) (L := tt) (v := .string ((tt.getD i default).key)) rfl (rd_base (i := 9) rfl htt) (by first | assumption | omega) sh9 (congrArg (fun z => (tSlot.enc z)[1]?) (getd_at (by first | assumption | omega) default))) ?_
          refine h_t0 (i := 6) (ls := #[T1,T1,T1,T1,T1,T1,T1,F0,F0,F0,F0,F0,F0,F0,F0,F0,F0]) rfl (p_move rfl) ?_
          refine h_t0 (i := 7) (ls := #[T1,T1,T1,T1,T1,T1,T1,T1,F0,F0,F0,F0,F0,F0,F0,F0,F0]) rfl (p_move rfl) ?_
          refine h_t0 (i := 8) (ls := #[T1,T1,T1,T1,T1,T1,T1,T1,T1,F0,F0,F0,F0,F0,F0,F0,F0]) rfl (p_indexAddr (L := tt) (T := tSlot) (i := (i : Int)) rfl rfl (rd_base (i := 9) rfl htt) Try.underlying22 sz33 (by omega) (by omega)) ?_
          refine h_t0 (i := 9) (ls := #[T1,T1,T1,T1,T1,T1,T1,T1,T1,T1,F0,F0,F0,F0,F0,F0,F0]) rfl (p_fieldAddrE rfl fo33_2) ?_
          refine h_t0 (i := 10) (ls := #[T1,T1,T1,T1,T1,T1,T1,T1,T1,T1,T1,F0,F0,F0,F0,F0,F0]) rfl (p_loadF (i := i) (j := 2) (T := tSlot) (L := tt) (v := Vi ((tt.getD i default).value)) rfl (rd_base (i := 9) rfl htt) (by first | assumption | omega) sh3 (congrArg (fun z => (tSlot.enc z)[2]?) (getd_at (by first | assumption | omega) default))) ?_
          refine h_one (i := 11) (ls := #[T1,T1,T1,T1,T1,T1,T1,T1,T1,T1,T1,T1,F0,F0,F0,F0,F0]) (by kernel_rfl) rfl rfl ?_
          refine o_callM rfl (tablePut_ok grown agrown cgrown ((tt.getD i default).key) ((tt.getD i default).value) (by first | assumption | exact ⟨hTok, by omega⟩ | exact ⟨hI.ok (by omega), Tab.key_le (Tab.ck_go hck) (by omega)⟩)) hf23 (fun w hw => (rd_loose (i := 0) rfl (fun hφ => hφ.elim)) w hw) rfl (fun _ _ _ _ ha hA => SlO.agree ha hA) ?_
          rintro ⟨a141_11, c141_11⟩ S141_11
          refine o_know (fun w hw => own_len (i := 0) (T := tSlot) hw rfl) (fun hlr141_11 => ?_)
          refine o_nil ?_
          refine h_next (dp (lz (lj (lj (lj (lj (lj (lj (lj (lj (lj (lj (ln))))))))))))) ?_
          refine h_tk (i := 12) (ls := #[T1,T1,T1,T1,T1,T1,T1,T1,T1,T1,T1,T1,T1,F0,F0,F0,F0]) rfl (p_move rfl) (dp (lz (lj (lj (lj (lj (lj (lj (lj (lj (lj (lj (ln))))))))))))) ?_
          refine h_tk (i := 13) (ls := #[T1,T1,T1,T1,T1,T1,T1,T1,T1,T1,T1,T1,T1,T1,F0,F0,F0]) rfl (p_extract rfl rfl) (dp (lz (lj (lj (lj (lj (lj (lj (lj (lj (lj (lj (ln))))))))))))) ?_
          refine h_tk (i := 14) (ls := #[T1,T1,T1,T1,T1,T1,T1,T1,T1,T1,T1,T1,T1,T1,T1,F0,F0]) rfl (p_extract rfl rfl) (dp (lz (lj (lj (lj (lj (lj (lj (lj (lj (lj (lj (ln))))))))))))) ?_
          refine h_tk (i := 15) (ls := #[T1,T1,T1,T1,T1,T1,T1,T1,T1,T1,T1,T1,T1,T1,T1,T1,F0]) rfl (p_assign rfl) (dp (lz (lj (lj (lj (lj (lj (lj (lj (lj (lj (lj (ln))))))))))))) ?_
          refine h_tk (i := 16) (ls := #[T1,T1,T1,T1,T1,T1,T1,T1,T1,T1,T1,T1,T1,T1,T1,T1,T1]) rfl (p_assign rfl) (dp (lz (lj (lj (lj (lj (lj (lj (lj (lj (lj (lj (ln))))))))))))) ?_
          refine h_done (by kernel_rfl) ?_
          refine q_then (c_seq (c_region ?_))
          refine o_mv rfl rfl ?_
          refine o_p (p_not (b := (!decide (Tab.putAt grown ((tt.getD i default).key) < 0))) rfl) ?_
          refine o_nil (q_then ?_)
          refine c_cond rfl (fun hc142 => ?_) (fun hc142 => ?_)
          ·simp only [Bool.not_eq_true', Bool.not_eq_false', decide_eq_true_eq] at hc142
           have hpt := hc142
           refine c_region ?_
           refine o_as rfl rfl ?_
           refine o_nil ?_
           refine q_block_normal (q_then ?_)
           refine c_region ?_
           refine o_mv rfl rfl ?_
           refine o_p (p_addb rfl rfl (by omega)) ?_
           refine o_as rfl rfl ?_
           refine o_nil ?_
           refine q_heap (H' := [loose tSlot (False) S141_11 a141_11 c141_11 (Tab.putT grown ((tt.getD i default).key) ((tt.getD i default).value)), loose tSlot (False) Sgrown agrown cgrown grown, own tSlot S126 a128 c129 (Tab.putT tt key value), own tSlot S107 a109 c110 (Tab.drop tt key), loose tSlot (False) (fun _ => False) none 0 ([] : List DSlot), loose tSlot (False) (fun _ => False) none 0 ([] : List DSlot), loose tSlot (False) (fun _ => False) none 0 ([] : List DSlot), own tSlot S11 a13 c14 (Tab.sizeR tt slots), own tSlot S6 a8 c9 (Tab.delR tt key), own tSlot S1 a3 c4 (Tab.putR tt key value), base w0]) (fun w hw => HeapIs.toLoose (i := 0) (T := tSlot) rfl hw) ?_
           refine q_round hK137 (8, (Tab.putT grown ((tt.getD i default).key) ((tt.getD i default).value)), a141_11, c141_11, S141_11, i + 1) ?_ ?_ ?_ ?_
           ·clear hK137
            first | exact hI.skip2 (by omega) (by omega) hu | exact hI.add2 hTok (by omega) (by omega) hu (by simpa using hpt) | exact hI.full2 hck (by omega) (by omega) (by omega) hu (by simpa using hpt)
           ·(try dsimp only); omega
           ·exact sr (sr (sr (sr (sr (sr (sr (sr (sr (sr (sr (sr (sr (sr (sr (sr (sr (sr (sr (sr (Sub.nil _))))))))))))))))))))
           ·exact pk [0, 2, 3, 4, 5, 6, 7, 8, 9, 10]
          ·simp only [Bool.not_eq_false', Bool.not_eq_true', decide_eq_false_iff_not, Int.not_lt] at hc142
           have hpt := hc142
           refine c_skip ?_
           refine q_block_normal (q_then ?_)
           refine c_region ?_
           refine o_mv rfl rfl ?_
           refine o_p (p_addb rfl rfl (by omega)) ?_
           refine o_as rfl rfl ?_
           refine o_nil ?_
           refine q_heap (H' := [loose tSlot (False) S141_11 a141_11 c141_11 (Tab.putT grown ((tt.getD i default).key) ((tt.getD i default).value)), loose tSlot (False) Sgrown agrown cgrown grown, own tSlot S126 a128 c129 (Tab.putT tt key value), own tSlot S107 a109 c110 (Tab.drop tt key), loose tSlot (False) (fun _ => False) none 0 ([] : List DSlot), loose tSlot (False) (fun _ => False) none 0 ([] : List DSlot), loose tSlot (False) (fun _ => False) none 0 ([] : List DSlot), own tSlot S11 a13 c14 (Tab.sizeR tt slots), own tSlot S6 a8 c9 (Tab.delR tt key), own tSlot S1 a3 c4 (Tab.putR tt key value), base w0]) (fun w hw => HeapIs.toLoose (i := 0) (T := tSlot) rfl hw) ?_
           refine q_round hK137 (o, (Tab.putT grown ((tt.getD i default).key) ((tt.getD i default).value)), a141_11, c141_11, S141_11, i + 1) ?_ ?_ ?_ ?_
           ·clear hK137
            first | exact hI.skip2 (by omega) (by omega) hu | exact hI.add2 hTok (by omega) (by omega) hu (by simpa using hpt) | exact hI.full2 hck (by omega) (by omega) (by omega) hu (by simpa using hpt)
           ·(try dsimp only); omega
           ·exact sr (sr (sr (sr (sr (sr (sr (sr (sr (sr (sr (sr (sr (sr (sr (sr (sr (sr (sr (sr (Sub.nil _))))))))))))))))))))
           ·exact pk [0, 2, 3, 4, 5, 6, 7, 8, 9, 10]
        ·simp only [Bool.and_eq_false_iff, decide_eq_false_iff_not, Int.not_lt, beq_eq_false_iff_ne, ne_eq] at hc139
         refine c_exit ?_
         refine q_then_exit (q_then_exit (q_block_exit ?_))
         refine q_heap (H' := [loose tSlot (False) Sgrown agrown cgrown grown, loose tSlot (False) S126 a128 c129 (Tab.putT tt key value), own tSlot S107 a109 c110 (Tab.drop tt key), loose tSlot (False) (fun _ => False) none 0 ([] : List DSlot), loose tSlot (False) (fun _ => False) none 0 ([] : List DSlot), loose tSlot (False) (fun _ => False) none 0 ([] : List DSlot), own tSlot S11 a13 c14 (Tab.sizeR tt slots), own tSlot S6 a8 c9 (Tab.delR tt key), own tSlot S1 a3 c4 (Tab.putR tt key value), base w0]) (fun w hw => HeapIs.toLoose (i := 1) (T := tSlot) rfl hw) ?_
         refine q_heap (H' := [loose tSlot (False) Sgrown agrown cgrown grown, loose tSlot (False) S126 a128 c129 (Tab.putT tt key value), loose tSlot (False) S107 a109 c110 (Tab.drop tt key), loose tSlot (False) (fun _ => False) none 0 ([] : List DSlot), loose tSlot (False) (fun _ => False) none 0 ([] : List DSlot), loose tSlot (False) (fun _ => False) none 0 ([] : List DSlot), own tSlot S11 a13 c14 (Tab.sizeR tt slots), own tSlot S6 a8 c9 (Tab.delR tt key), own tSlot S1 a3 c4 (Tab.putR tt key value), base w0]) (fun w hw => HeapIs.toLoose (i := 2) (T := tSlot) rfl hw) ?_
         refine q_join hK19 ((Tab.check tt), 8, o, (tt.getD ((Tab.slotOf tt key).toNat) default).value, (((((Tab.slotOf tt key) - (Tab.home key (tt.length : Int))) + (tt.length : Int)).tmod (tt.length : Int)) + 1), (Tab.putT tt key value), a128, c129, S126, (Tab.drop tt key), a109, c110, S107, grown, agrown, cgrown, Sgrown) ?_ (sr (sr (sr (sr (sr (sr (sr (sr (sr (sr (sr (sr (sr (sr (sr (sr (sr (sr (sr (Sub.nil _)))))))))))))))))))) (pk [0, 2, 1, 6, 7, 8, 9])
         clear hK19
         refine ⟨?_, ?_, ?_⟩
         ·first | exact Tab.s_v0 key hck | exact Tab.s_v1 hck (by omega) | exact Tab.s_v2 hck (by omega) (by omega) | exact Tab.s_v3 hck (by omega) (by omega)
         ·first | exact Tab.s_u0 key value hck | exact Tab.s_u1 hck (by omega) | exact Tab.s_u2 hck (by omega) (by omega) | exact Tab.s_u3 hck (by omega) (by omega)
         ·first | exact Tab.s_o0 slots hck | exact Tab.s_o1 hck (by omega) | exact hI.done hck (by omega) (by omega)
      ·simp only [Bool.not_eq_false', Bool.not_eq_true', decide_eq_false_iff_not, Int.not_lt] at hc131
       have hpt := hc131
       refine c_skip (q_then (c_seq (c_region ?_)))
       refine o_mv rfl rfl ?_
       refine o_p (p_lt rfl rfl) ?_
       refine o_mv rfl rfl ?_
       refine o_or (p := 117) 3 (decide (64 < slots)) ?_ ?_ ?_
       ·intro hb143 hk
        simp only [decide_eq_false_iff_not, Int.not_lt] at hb143
        refine o_unguard 114 rfl rfl ?_
        refine o_mv rfl rfl ?_
        refine o_unguard 114 rfl rfl ?_
        refine o_p (p_gt rfl rfl) ?_
        refine o_pf rfl rfl rfl ?_
        exact o_sub (sr (Sub.skip rfl (Sub.skip rfl (Sub.skip rfl (Sub.skip rfl (Sub.refl _)))))) hk
       ·intro hb143 hk
        refine o_guard_no rfl 114 rfl rfl rfl rfl rfl ?_
        refine o_guard_no rfl 114 rfl rfl rfl rfl rfl ?_
        refine o_pt rfl rfl rfl ?_
        exact o_sub (sr (Sub.skip rfl (Sub.skip rfl (Sub.skip rfl (Sub.skip rfl (Sub.refl _)))))) hk
       refine o_nil (q_then ?_)
       refine c_cond rfl (fun hc144 => ?_) (fun hc144 => ?_)
       ·simp only [Bool.or_eq_true, decide_eq_true_eq] at hc144
        refine c_region ?_
        refine o_as rfl rfl ?_
        refine o_nil ?_
        refine q_heap (H' := [loose tSlot (False) S126 a128 c129 (Tab.putT tt key value), own tSlot S107 a109 c110 (Tab.drop tt key), loose tSlot (False) (fun _ => False) none 0 ([] : List DSlot), loose tSlot (False) (fun _ => False) none 0 ([] : List DSlot), loose tSlot (False) (fun _ => False) none 0 ([] : List DSlot), own tSlot S11 a13 c14 (Tab.sizeR tt slots), own tSlot S6 a8 c9 (Tab.delR tt key), own tSlot S1 a3 c4 (Tab.putR tt key value), base w0]) (fun w hw => HeapIs.toLoose (i := 0) (T := tSlot) rfl hw) ?_
        refine q_heap (H' := [loose tSlot (False) S126 a128 c129 (Tab.putT tt key value), loose tSlot (False) S107 a109 c110 (Tab.drop tt key), loose tSlot (False) (fun _ => False) none 0 ([] : List DSlot), loose tSlot (False) (fun _ => False) none 0 ([] : List DSlot), loose tSlot (False) (fun _ => False) none 0 ([] : List DSlot), own tSlot S11 a13 c14 (Tab.sizeR tt slots), own tSlot S6 a8 c9 (Tab.delR tt key), own tSlot S1 a3 c4 (Tab.putR tt key value), base w0]) (fun w hw => HeapIs.toLoose (i := 1) (T := tSlot) rfl hw) ?_
        refine q_join hK19 ((Tab.check tt), (Tab.check tt), 3, (tt.getD ((Tab.slotOf tt key).toNat) default).value, (((((Tab.slotOf tt key) - (Tab.home key (tt.length : Int))) + (tt.length : Int)).tmod (tt.length : Int)) + 1), (Tab.putT tt key value), a128, c129, S126, (Tab.drop tt key), a109, c110, S107, ([] : List DSlot), none, 0, (fun _ => False)) ?_ (sr (sr (sr (sr (sr (sr (sr (sr (sr (sr (sr (sr (sr (sr (sr (sr (sr (sr (sr (Sub.nil _)))))))))))))))))))) (pk [2, 1, 0, 5, 6, 7, 8])
        clear hK19
        refine ⟨?_, ?_, ?_⟩
        ·first | exact Tab.s_v0 key hck | exact Tab.s_v1 hck (by omega) | exact Tab.s_v2 hck (by omega) (by omega) | exact Tab.s_v3 hck (by omega) (by omega)
        ·first | exact Tab.s_u0 key value hck | exact Tab.s_u1 hck (by omega) | exact Tab.s_u2 hck (by omega) (by omega) | exact Tab.s_u3 hck (by omega) (by omega)
        ·first | exact Tab.s_o0 slots hck | exact Tab.s_o1 hck (by omega) | exact hI.done hck (by omega) (by omega)
       ·simp only [Bool.or_eq_false_iff, decide_eq_false_iff_not, Int.not_lt] at hc144
        refine c_seq (c_region ?_)
        refine o_mv rfl rfl ?_
        refine o_makeSlice (T := tSlot) (m := slots) (z := (⟨false, ByteArray.empty, 0⟩ : DSlot)) rfl rfl Try.underlying22 el33 ze33 rfl (by decide) (by omega) (by omega) rfl (fun S146 a145 => ?_)
        refine o_as rfl rfl ?_
        refine o_nil (q_then (c_seq (c_region ?_)))
        refine o_as rfl rfl ?_
        refine o_nil (q_then (c_block ?_))
        refine c_heap (H' := [loose tSlot (False) S146 a145 slots.toNat (List.replicate slots.toNat (⟨false, ByteArray.empty, 0⟩ : DSlot)), own tSlot S126 a128 c129 (Tab.putT tt key value), own tSlot S107 a109 c110 (Tab.drop tt key), loose tSlot (False) (fun _ => False) none 0 ([] : List DSlot), loose tSlot (False) (fun _ => False) none 0 ([] : List DSlot), loose tSlot (False) (fun _ => False) none 0 ([] : List DSlot), own tSlot S11 a13 c14 (Tab.sizeR tt slots), own tSlot S6 a8 c9 (Tab.delR tt key), own tSlot S1 a3 c4 (Tab.putR tt key value), base w0]) (fun w hw => HeapIs.toLoose (i := 0) (T := tSlot) rfl hw) ?_
        refine c_loop (St := Int × List DSlot × Option Addr × Nat × (Nat → Prop) × Nat)
         (fun ⟨o, grown, agrown, cgrown, Sgrown, i⟩ => [(0, .slice att tt.length ctt), (9, Vi (Tab.has tt key)), (10, Vi (Tab.looked tt key)), (11, Vi (Tab.keyErr tt key)), (12, .slice a3 (Tab.putR tt key value).length c4), (13, Vi (Tab.putErr tt key value)), (14, .slice a8 (Tab.delR tt key).length c9), (15, Vi (Tab.keyErr tt key)), (16, .slice a13 (Tab.sizeR tt slots).length c14), (17, Vi (Tab.sizeErr tt slots)), (18, Vi (Tab.check tt)), (19, Vi (Tab.check tt)), (20, Vi (Tab.check tt)), (21, Vi o), (22, Vi ((tt.getD ((Tab.slotOf tt key).toNat) default).value)), (23, Vi (((((Tab.slotOf tt key) - (Tab.home key (tt.length : Int))) + (tt.length : Int)).tmod (tt.length : Int)) + 1)), (24, .slice a128 (Tab.putT tt key value).length c129), (25, .slice a109 (Tab.drop tt key).length c110), (26, .slice agrown grown.length cgrown), (29, Vi (i : Int))])
         (fun ⟨o, grown, agrown, cgrown, Sgrown, i⟩ => [loose tSlot (False) Sgrown agrown cgrown grown, own tSlot S126 a128 c129 (Tab.putT tt key value), own tSlot S107 a109 c110 (Tab.drop tt key), loose tSlot (False) (fun _ => False) none 0 ([] : List DSlot), loose tSlot (False) (fun _ => False) none 0 ([] : List DSlot), loose tSlot (False) (fun _ => False) none 0 ([] : List DSlot), own tSlot S11 a13 c14 (Tab.sizeR tt slots), own tSlot S6 a8 c9 (Tab.delR tt key), own tSlot S1 a3 c4 (Tab.putR tt key value), base w0])
         (fun ⟨o, grown, agrown, cgrown, Sgrown, i⟩ => Tab.GI tt slots grown o i)
         (fun ⟨o, grown, agrown, cgrown, Sgrown, i⟩ => tt.length - i)
         ((Tab.check tt), (List.replicate slots.toNat (⟨false, ByteArray.empty, 0⟩ : DSlot)), a145, slots.toNat, S146, 0) ?_ (sr (sr (sr (sr (sr (sr (sr (sr (sr (sr (sr (sr (sr (sr (sr (sr (sr (sr (sr (sr (Sub.nil _))))))))))))))))))))) (fun _ hw => hw) ?_
        ·exact Tab.GI.start2 (by omega) (by omega)
        rintro ⟨o, grown, agrown, cgrown, Sgrown, i⟩ hI K hK148
        have hle := hI.le
        show SC _ _ Try.prog 205 w0 _ _ [(0, .slice att tt.length ctt), (9, Vi (Tab.has tt key)), (10, Vi (Tab.looked tt key)), (11, Vi (Tab.keyErr tt key)), (12, .slice a3 (Tab.putR tt key value).length c4), (13, Vi (Tab.putErr tt key value)), (14, .slice a8 (Tab.delR tt key).length c9), (15, Vi (Tab.keyErr tt key)), (16, .slice a13 (Tab.sizeR tt slots).length c14), (17, Vi (Tab.sizeErr tt slots)), (18, Vi (Tab.check tt)), (19, Vi (Tab.check tt)), (20, Vi (Tab.check tt)), (21, Vi o), (22, Vi ((tt.getD ((Tab.slotOf tt key).toNat) default).value)), (23, Vi (((((Tab.slotOf tt key) - (Tab.home key (tt.length : Int))) + (tt.length : Int)).tmod (tt.length : Int)) + 1)), (24, .slice a128 (Tab.putT tt key value).length c129), (25, .slice a109 (Tab.drop tt key).length c110), (26, .slice agrown grown.length cgrown), (29, Vi (i : Int))] [loose tSlot (False) Sgrown agrown cgrown grown, own tSlot S126 a128 c129 (Tab.putT tt key value), own tSlot S107 a109 c110 (Tab.drop tt key), loose tSlot (False) (fun _ => False) none 0 ([] : List DSlot), loose tSlot (False) (fun _ => False) none 0 ([] : List DSlot), loose tSlot (False) (fun _ => False) none 0 ([] : List DSlot), own tSlot S11 a13 c14 (Tab.sizeR tt slots), own tSlot S6 a8 c9 (Tab.delR tt key), own tSlot S1 a3 c4 (Tab.putR tt key value), base w0]
        refine c_seq (c_seq (c_region ?_))
        refine o_mv rfl rfl ?_
        refine o_mv rfl rfl ?_
        refine o_p (p_len_slice rfl rfl Try.underlying22) ?_
        refine o_p (p_lt rfl rfl) ?_
        refine o_mv rfl rfl ?_
        refine o_and (p := 127) 3 (o == 0) ?_ ?_ ?_
        ·intro hb149 hk
         simp only [decide_eq_true_eq] at hb149
         refine o_unguard 124 rfl rfl ?_
         refine o_mv rfl rfl ?_
         refine o_unguard 124 rfl rfl ?_
         refine o_p (p_eq rfl rfl) ?_
         refine o_pt rfl rfl rfl ?_
         exact o_sub (sr (Sub.skip rfl (Sub.skip rfl (Sub.skip rfl (Sub.skip rfl (Sub.refl _)))))) hk
        ·intro hb149 hk
         refine o_guard_no rfl 124 rfl rfl rfl rfl rfl ?_
         refine o_guard_no rfl 124 rfl rfl rfl rfl rfl ?_
         refine o_pf rfl rfl rfl ?_
         exact o_sub (sr (Sub.skip rfl (Sub.skip rfl (Sub.skip rfl (Sub.skip rfl (Sub.refl _)))))) hk
        refine o_nil (q_then ?_)
        refine c_cond rfl (fun hc150 => ?_) (fun hc150 => ?_)
        ·simp only [Bool.and_eq_true, decide_eq_true_eq, beq_iff_eq] at hc150
         refine c_skip (q_then (c_seq (c_block (c_seq (c_seq (c_region ?_))))))
         refine o_mv rfl rfl ?_
         refine o_mv rfl rfl ?_
         refine o_p (p_indexAddr (L := tt) (T := tSlot) (i := (i : Int)) rfl rfl (rd_base (i := 9) rfl htt) Try.underlying22 sz33 (by omega) (by omega)) ?_
         refine o_p (p_fieldAddrE rfl fo33_0) ?_
         refine o_p (p_loadF (i := i) (j := 0) (T := tSlot) (L := tt) (v := .bool ((tt.getD i default).used)) rfl (rd_base (i := 9) rfl htt) (by first | assumption | omega) sh4 (congrArg (fun z => (tSlot.enc z)[0]?) (getd_at (by first | assumption | omega) default))) ?_
         refine o_p (p_not (b := (tt.getD i default).used) rfl) ?_
         refine o_nil (q_then ?_)
         refine c_cond rfl (fun hc151 => ?_) (fun hc151 => ?_)
         ·simp only [Bool.not_eq_true'] at hc151
          have hu := hc151
          refine c_exit ?_
          refine q_then_exit (q_block_exit (q_then ?_))
          refine c_region ?_
          refine o_mv rfl rfl ?_
          refine o_p (p_addb rfl rfl (by omega)) ?_
          refine o_as rfl rfl ?_
          refine o_nil ?_
          refine q_round hK148 (o, grown, agrown, cgrown, Sgrown, i + 1) ?_ ?_ ?_ ?_
          ·clear hK148
           first | exact hI.skip2 (by omega) (by omega) hu | exact hI.add2 hTok (by omega) (by omega) hu (by simpa using hpt) | exact hI.full2 hck (by omega) (by omega) (by omega) hu (by simpa using hpt)
          ·(try dsimp only); omega
          ·exact sr (sr (sr (sr (sr (sr (sr (sr (sr (sr (sr (sr (sr (sr (sr (sr (sr (sr (sr (sr (Sub.nil _))))))))))))))))))))
          ·exact pk [0, 1, 2, 3, 4, 5, 6, 7, 8, 9]
         ·simp only [Bool.not_eq_false'] at hc151
          have hu := hc151
          refine c_skip (q_then (c_seq ?_))
          refine c_held hmix [loose tSlot (False) Sgrown agrown cgrown grown, own tSlot S126 a128 c129 (Tab.putT tt key value), own tSlot S107 a109 c110 (Tab.drop tt key), loose tSlot (False) (fun _ => False) none 0 ([] : List DSlot), loose tSlot (False) (fun _ => False) none 0 ([] : List DSlot), loose tSlot (False) (fun _ => False) none 0 ([] : List DSlot), own tSlot S11 a13 c14 (Tab.sizeR tt slots), own tSlot S6 a8 c9 (Tab.delR tt key), own tSlot S1 a3 c4 (Tab.putR tt key value), base w0] rfl rfl ?_
          refine h_t0 (i := 0) (ls := #[T1,F0,F0,F0,F0,F0,F0,F0,F0,F0,F0,F0,F0,F0,F0,F0,F0]) rfl (p_move rfl) ?_
          refine h_t0 (i := 1) (ls := #[T1,T1,F0,F0,F0,F0,F0,F0,F0,F0,F0,F0,F0,F0,F0,F0,F0]) rfl (p_move rfl) ?_
          refine h_t0 (i := 2) (ls := #[T1,T1,T1,F0,F0,F0,F0,F0,F0,F0,F0,F0,F0,F0,F0,F0,F0]) rfl (p_move rfl) ?_
          refine h_t0 (i := 3) (ls := #[T1,T1,T1,T1,F0,F0,F0,F0,F0,F0,F0,F0,F0,F0,F0,F0,F0]) rfl (p_indexAddr (L := tt) (T := tSlot) (i := (i : Int)) rfl rfl (rd_base (i := 9) rfl htt) Try.underlying22 sz33 (by omega) (by omega)) ?_
          refine h_t0 (i := 4) (ls := #[T1,T1,T1,T1,T1,F0,F0,F0,F0,F0,F0,F0,F0,F0,F0,F0,F0]) rfl (p_fieldAddrE rfl fo33_1) ?_
          refine h_t0 (i := 5) (ls := #[T1,T1,T1,T1,T1,T1,F0,F0,F0,F0,F0,F0,F0,F0,F0,F0,F0]) rfl (p_loadF (i := i) (j := 1) (T := tSlot) (L := tt) (v := .string ((tt.getD i default).key)) rfl (rd_base (i := 9) rfl htt) (by first | assumption | omega) sh9 (congrArg (fun z => (tSlot.enc z)[1]?) (getd_at (by first | assumption | omega) default))) ?_
          refine h_t0 (i := 6) (ls := #[T1,T1,T1,T1,T1,T1,T1,F0,F0,F0,F0,F0,F0,F0,F0,F0,F0]) rfl (p_move rfl) ?_
          refine h_t0 (i := 7) (ls := #[T1,T1,T1,T1,T1,T1,T1,T1,F0,F0,F0,F0,F0,F0,F0,F0,F0]) rfl (p_move rfl) ?_
          refine h_t0 (i := 8) (ls := #[T1,T1,T1,T1,T1,T1,T1,T1,T1,F0,F0,F0,F0,F0,F0,F0,F0]) rfl (p_indexAddr (L := tt) (T := tSlot) (i := (i : Int)) rfl rfl (rd_base (i := 9) rfl htt) Try.underlying22 sz33 (by omega) (by omega)) ?_
          refine h_t0 (i := 9) (ls := #[T1,T1,T1,T1,T1,T1,T1,T1,T1,T1,F0,F0,F0,F0,F0,F0,F0]) rfl (p_fieldAddrE rfl fo33_2) ?_
          refine h_t0 (i := 10) (ls := #[T1,T1,T1,T1,T1,T1,T1,T1,T1,T1,T1,F0,F0,F0,F0,F0,F0]) rfl (p_loadF (i := i) (j := 2) (T := tSlot) (L := tt) (v := Vi ((tt.getD i default).value)) rfl (rd_base (i := 9) rfl htt) (by first | assumption | omega) sh3 (congrArg (fun z => (tSlot.enc z)[2]?) (getd_at (by first | assumption | omega) default))) ?_
          refine h_one (i := 11) (ls := #[T1,T1,T1,T1,T1,T1,T1,T1,T1,T1,T1,T1,F0,F0,F0,F0,F0]) (by kernel_rfl) rfl rfl ?_
          refine o_callM rfl (tablePut_ok grown agrown cgrown ((tt.getD i default).key) ((tt.getD i default).value) (by first | assumption | exact ⟨hTok, by omega⟩ | exact ⟨hI.ok (by omega), Tab.key_le (Tab.ck_go hck) (by omega)⟩)) hf23 (fun w hw => (rd_loose (i := 0) rfl (fun hφ => hφ.elim)) w hw) rfl (fun _ _ _ _ ha hA => SlO.agree ha hA) ?_
          rintro ⟨a152_11, c152_11⟩ S152_11
          refine o_know (fun w hw => own_len (i := 0) (T := tSlot) hw rfl) (fun hlr152_11 => ?_)
          refine o_nil ?_
          refine h_next (dp (lz (lj (lj (lj (lj (lj (lj (lj (lj (lj (lj (ln))))))))))))) ?_
          refine h_tk (i := 12) (ls := #[T1,T1,T1,T1,T1,T1,T1,T1,T1,T1,T1,T1,T1,F0,F0,F0,F0]) rfl (p_move rfl) (dp (lz (lj (lj (lj (lj (lj (lj (lj (lj (lj (lj (ln))))))))))))) ?_
          refine h_tk (i := 13) (ls := #[T1,T1,T1,T1,T1,T1,T1,T1,T1,T1,T1,T1,T1,T1,F0,F0,F0]) rfl (p_extract rfl rfl) (dp (lz (lj (lj (lj (lj (lj (lj (lj (lj (lj (lj (ln))))))))))))) ?_
          refine h_tk (i := 14) (ls := #[T1,T1,T1,T1,T1,T1,T1,T1,T1,T1,T1,T1,T1,T1,T1,F0,F0]) rfl (p_extract rfl rfl) (dp (lz (lj (lj (lj (lj (lj (lj (lj (lj (lj (lj (ln))))))))))))) ?_
          refine h_tk (i := 15) (ls := #[T1,T1,T1,T1,T1,T1,T1,T1,T1,T1,T1,T1,T1,T1,T1,T1,F0]) rfl (p_assign rfl) (dp (lz (lj (lj (lj (lj (lj (lj (lj (lj (lj (lj (ln))))))))))))) ?_
          refine h_tk (i := 16) (ls := #[T1,T1,T1,T1,T1,T1,T1,T1,T1,T1,T1,T1,T1,T1,T1,T1,T1]) rfl (p_assign rfl) (dp (lz (lj (lj (lj (lj (lj (lj (lj (lj (lj (lj (ln))))))))))))) ?_
          refine h_done (by kernel_rfl) ?_
          refine q_then (c_seq (c_region ?_))
          refine o_mv rfl rfl ?_
          refine o_p (p_not (b := (!decide (Tab.putAt grown ((tt.getD i default).key) < 0))) rfl) ?_
          refine o_nil (q_then ?_)
          refine c_cond rfl (fun hc153 => ?_) (fun hc153 => ?_)
          ·simp only [Bool.not_eq_true', Bool.not_eq_false', decide_eq_true_eq] at hc153
           have hpt := hc153
           refine c_region ?_
           refine o_as rfl rfl ?_
           refine o_nil ?_
           refine q_block_normal (q_then ?_)
           refine c_region ?_
           refine o_mv rfl rfl ?_
           refine o_p (p_addb rfl rfl (by omega)) ?_
           refine o_as rfl rfl ?_
           refine o_nil ?_
           refine q_heap (H' := [loose tSlot (False) S152_11 a152_11 c152_11 (Tab.putT grown ((tt.getD i default).key) ((tt.getD i default).value)), loose tSlot (False) Sgrown agrown cgrown grown, own tSlot S126 a128 c129 (Tab.putT tt key value), own tSlot S107 a109 c110 (Tab.drop tt key), loose tSlot (False) (fun _ => False) none 0 ([] : List DSlot), loose tSlot (False) (fun _ => False) none 0 ([] : List DSlot), loose tSlot (False) (fun _ => False) none 0 ([] : List DSlot), own tSlot S11 a13 c14 (Tab.sizeR tt slots), own tSlot S6 a8 c9 (Tab.delR tt key), own tSlot S1 a3 c4 (Tab.putR tt key value), base w0]) (fun w hw => HeapIs.toLoose (i := 0) (T := tSlot) rfl hw) ?_
           refine q_round hK148 (8, (Tab.putT grown ((tt.getD i default).key) ((tt.getD i default).value)), a152_11, c152_11, S152_11, i + 1) ?_ ?_ ?_ ?_
           ·clear hK148
            first | exact hI.skip2 (by omega) (by omega) hu | exact hI.add2 hTok (by omega) (by omega) hu (by simpa using hpt) | exact hI.full2 hck (by omega) (by omega) (by omega) hu (by simpa using hpt)
           ·(try dsimp only); omega
           ·exact sr (sr (sr (sr (sr (sr (sr (sr (sr (sr (sr (sr (sr (sr (sr (sr (sr (sr (sr (sr (Sub.nil _))))))))))))))))))))
           ·exact pk [0, 2, 3, 4, 5, 6, 7, 8, 9, 10]
          ·simp only [Bool.not_eq_false', Bool.not_eq_true', decide_eq_false_iff_not, Int.not_lt] at hc153
           have hpt := hc153
           refine c_skip ?_
           refine q_block_normal (q_then ?_)
           refine c_region ?_
           refine o_mv rfl rfl ?_
           refine o_p (p_addb rfl rfl (by omega)) ?_
           refine o_as rfl rfl ?_
           refine o_nil ?_
           refine q_heap (H' := [loose tSlot (False) S152_11 a152_11 c152_11 (Tab.putT grown ((tt.getD i default).key) ((tt.getD i default).value)), loose tSlot (False) Sgrown agrown cgrown grown, own tSlot S126 a128 c129 (Tab.putT tt key value), own tSlot S107 a109 c110 (Tab.drop tt key), loose tSlot (False) (fun _ => False) none 0 ([] : List DSlot), loose tSlot (False) (fun _ => False) none 0 ([] : List DSlot), loose tSlot (False) (fun _ => False) none 0 ([] : List DSlot), own tSlot S11 a13 c14 (Tab.sizeR tt slots), own tSlot S6 a8 c9 (Tab.delR tt key), own tSlot S1 a3 c4 (Tab.putR tt key value), base w0]) (fun w hw => HeapIs.toLoose (i := 0) (T := tSlot) rfl hw) ?_
           refine q_round hK148 (o, (Tab.putT grown ((tt.getD i default).key) ((tt.getD i default).value)), a152_11, c152_11, S152_11, i + 1) ?_ ?_ ?_ ?_
           ·clear hK148
            first | exact hI.skip2 (by omega) (by omega) hu | exact hI.add2 hTok (by omega) (by omega) hu (by simpa using hpt) | exact hI.full2 hck (by omega) (by omega) (by omega) hu (by simpa using hpt)
           ·(try dsimp only); omega
           ·exact sr (sr (sr (sr (sr (sr (sr (sr (sr (sr (sr (sr (sr (sr (sr (sr (sr (sr (sr (sr (Sub.nil _))))))))))))))))))))
           ·exact pk [0, 2, 3, 4, 5, 6, 7, 8, 9, 10]
        ·simp only [Bool.and_eq_false_iff, decide_eq_false_iff_not, Int.not_lt, beq_eq_false_iff_ne, ne_eq] at hc150
         refine c_exit ?_
         refine q_then_exit (q_then_exit (q_block_exit ?_))
         refine q_heap (H' := [loose tSlot (False) Sgrown agrown cgrown grown, loose tSlot (False) S126 a128 c129 (Tab.putT tt key value), own tSlot S107 a109 c110 (Tab.drop tt key), loose tSlot (False) (fun _ => False) none 0 ([] : List DSlot), loose tSlot (False) (fun _ => False) none 0 ([] : List DSlot), loose tSlot (False) (fun _ => False) none 0 ([] : List DSlot), own tSlot S11 a13 c14 (Tab.sizeR tt slots), own tSlot S6 a8 c9 (Tab.delR tt key), own tSlot S1 a3 c4 (Tab.putR tt key value), base w0]) (fun w hw => HeapIs.toLoose (i := 1) (T := tSlot) rfl hw) ?_
         refine q_heap (H' := [loose tSlot (False) Sgrown agrown cgrown grown, loose tSlot (False) S126 a128 c129 (Tab.putT tt key value), loose tSlot (False) S107 a109 c110 (Tab.drop tt key), loose tSlot (False) (fun _ => False) none 0 ([] : List DSlot), loose tSlot (False) (fun _ => False) none 0 ([] : List DSlot), loose tSlot (False) (fun _ => False) none 0 ([] : List DSlot), own tSlot S11 a13 c14 (Tab.sizeR tt slots), own tSlot S6 a8 c9 (Tab.delR tt key), own tSlot S1 a3 c4 (Tab.putR tt key value), base w0]) (fun w hw => HeapIs.toLoose (i := 2) (T := tSlot) rfl hw) ?_
         refine q_join hK19 ((Tab.check tt), (Tab.check tt), o, (tt.getD ((Tab.slotOf tt key).toNat) default).value, (((((Tab.slotOf tt key) - (Tab.home key (tt.length : Int))) + (tt.length : Int)).tmod (tt.length : Int)) + 1), (Tab.putT tt key value), a128, c129, S126, (Tab.drop tt key), a109, c110, S107, grown, agrown, cgrown, Sgrown) ?_ (sr (sr (sr (sr (sr (sr (sr (sr (sr (sr (sr (sr (sr (sr (sr (sr (sr (sr (sr (Sub.nil _)))))))))))))))))))) (pk [0, 2, 1, 6, 7, 8, 9])
         clear hK19
         refine ⟨?_, ?_, ?_⟩
         ·first | exact Tab.s_v0 key hck | exact Tab.s_v1 hck (by omega) | exact Tab.s_v2 hck (by omega) (by omega) | exact Tab.s_v3 hck (by omega) (by omega)
         ·first | exact Tab.s_u0 key value hck | exact Tab.s_u1 hck (by omega) | exact Tab.s_u2 hck (by omega) (by omega) | exact Tab.s_u3 hck (by omega) (by omega)
         ·first | exact Tab.s_o0 slots hck | exact Tab.s_o1 hck (by omega) | exact hI.done hck (by omega) (by omega)
  ·simp only [beq_eq_false_iff_ne, ne_eq] at hc20
   have hck := hc20
   refine c_skip ?_
   refine q_join hK19 ((Tab.check tt), (Tab.check tt), (Tab.check tt), 0, 0, ([] : List DSlot), none, 0, (fun _ => False), ([] : List DSlot), none, 0, (fun _ => False), ([] : List DSlot), none, 0, (fun _ => False)) ?_ (sr (sr (sr (sr (sr (sr (sr (sr (sr (sr (sr (sr (sr (sr (sr (sr (sr (sr (sr (Sub.nil _)))))))))))))))))))) (pk [0, 1, 2, 3, 4, 5, 6])
   clear hK19
   refine ⟨?_, ?_, ?_⟩
   ·first | exact Tab.s_v0 key hck | exact Tab.s_v1 hck (by omega) | exact Tab.s_v2 hck (by omega) (by omega) | exact Tab.s_v3 hck (by omega) (by omega)
   ·first | exact Tab.s_u0 key value hck | exact Tab.s_u1 hck (by omega) | exact Tab.s_u2 hck (by omega) (by omega) | exact Tab.s_u3 hck (by omega) (by omega)
   ·first | exact Tab.s_o0 slots hck | exact Tab.s_o1 hck (by omega) | exact hI.done hck (by omega) (by omega)
 rintro ⟨v, u, o, has, many, put, aput, cput, Sput, less, aless, cless, Sless, grown, agrown, cgrown, Sgrown⟩ hj1
 show SQ _ 205 w0 _ _ [(0, .slice att tt.length ctt), (9, Vi (Tab.has tt key)), (10, Vi (Tab.looked tt key)), (11, Vi (Tab.keyErr tt key)), (12, .slice a3 (Tab.putR tt key value).length c4), (13, Vi (Tab.putErr tt key value)), (14, .slice a8 (Tab.delR tt key).length c9), (15, Vi (Tab.keyErr tt key)), (16, .slice a13 (Tab.sizeR tt slots).length c14), (17, Vi (Tab.sizeErr tt slots)), (18, Vi (Tab.check tt)), (19, Vi v), (20, Vi u), (21, Vi o), (22, Vi has), (23, Vi many), (24, .slice aput put.length cput), (25, .slice aless less.length cless), (26, .slice agrown grown.length cgrown)] [loose tSlot (False) Sgrown agrown cgrown grown, loose tSlot (False) Sless aless cless less, loose tSlot (False) Sput aput cput put, own tSlot S11 a13 c14 (Tab.sizeR tt slots), own tSlot S6 a8 c9 (Tab.delR tt key), own tSlot S1 a3 c4 (Tab.putR tt key value), base w0]
 refine q_then (c_seq (c_region ?_))
 refine o_call0 (v := .bool true) rfl (tableBegun_ok ) hf24 (fun _ _ => trivial) rfl ?_
 refine o_mv rfl rfl ?_
 refine o_unguard 154 rfl rfl ?_
 refine o_mv rfl rfl ?_
 refine o_unguard 154 rfl rfl ?_
 refine o_call0 (v := Vi (Tab.check tt)) rfl (tcheck_ok tt att ctt) hf25 (fun w hw => (rd_base (i := 6) rfl htt) w hw) rfl ?_
 refine o_unguard 154 rfl rfl ?_
 refine o_mv rfl rfl ?_
 refine o_unguard 154 rfl rfl ?_
 refine o_p (p_eq rfl rfl) ?_
 refine o_pt rfl rfl rfl ?_
 refine o_mv rfl rfl ?_
 refine o_and (p := 164) 4 ((Tab.has tt key) == has) ?_ ?_ ?_
 ·intro hb154 hk
  simp only [beq_iff_eq] at hb154
  refine o_unguard 160 rfl rfl ?_
  refine o_mv rfl rfl ?_
  refine o_unguard 160 rfl rfl ?_
  refine o_mv rfl rfl ?_
  refine o_unguard 160 rfl rfl ?_
  refine o_p (p_eq rfl rfl) ?_
  refine o_pt rfl rfl rfl ?_
  exact o_sub (sr (Sub.skip rfl (Sub.skip rfl (Sub.skip rfl (Sub.skip rfl (Sub.skip rfl (Sub.refl _))))))) hk
 ·intro hb154 hk
  refine o_guard_no rfl 160 rfl rfl rfl rfl rfl ?_
  refine o_guard_no rfl 160 rfl rfl rfl rfl rfl ?_
  refine o_guard_no rfl 160 rfl rfl rfl rfl rfl ?_
  refine o_pf rfl rfl rfl ?_
  exact o_sub (sr (Sub.skip rfl (Sub.skip rfl (Sub.skip rfl (Sub.skip rfl (Sub.skip rfl (Sub.refl _))))))) hk
 refine o_mv rfl rfl ?_
 refine o_and (p := 169) 4 ((Tab.looked tt key) == many) ?_ ?_ ?_
 ·intro hb155 hk
  simp only [Bool.and_eq_true, beq_iff_eq] at hb155
  refine o_unguard 165 rfl rfl ?_
  refine o_mv rfl rfl ?_
  refine o_unguard 165 rfl rfl ?_
  refine o_mv rfl rfl ?_
  refine o_unguard 165 rfl rfl ?_
  refine o_p (p_eq rfl rfl) ?_
  refine o_pt rfl rfl rfl ?_
  exact o_sub (sr (Sub.skip rfl (Sub.skip rfl (Sub.skip rfl (Sub.skip rfl (Sub.skip rfl (Sub.refl _))))))) hk
 ·intro hb155 hk
  refine o_guard_no rfl 165 rfl rfl rfl rfl rfl ?_
  refine o_guard_no rfl 165 rfl rfl rfl rfl rfl ?_
  refine o_guard_no rfl 165 rfl rfl rfl rfl rfl ?_
  refine o_pf rfl rfl rfl ?_
  exact o_sub (sr (Sub.skip rfl (Sub.skip rfl (Sub.skip rfl (Sub.skip rfl (Sub.skip rfl (Sub.refl _))))))) hk
 refine o_mv rfl rfl ?_
 refine o_and (p := 174) 4 ((Tab.keyErr tt key) == v) ?_ ?_ ?_
 ·intro hb156 hk
  simp only [Bool.and_eq_true, beq_iff_eq] at hb156
  refine o_unguard 170 rfl rfl ?_
  refine o_mv rfl rfl ?_
  refine o_unguard 170 rfl rfl ?_
  refine o_mv rfl rfl ?_
  refine o_unguard 170 rfl rfl ?_
  refine o_p (p_eq rfl rfl) ?_
  refine o_pt rfl rfl rfl ?_
  exact o_sub (sr (Sub.skip rfl (Sub.skip rfl (Sub.skip rfl (Sub.skip rfl (Sub.skip rfl (Sub.refl _))))))) hk
 ·intro hb156 hk
  refine o_guard_no rfl 170 rfl rfl rfl rfl rfl ?_
  refine o_guard_no rfl 170 rfl rfl rfl rfl rfl ?_
  refine o_guard_no rfl 170 rfl rfl rfl rfl rfl ?_
  refine o_pf rfl rfl rfl ?_
  exact o_sub (sr (Sub.skip rfl (Sub.skip rfl (Sub.skip rfl (Sub.skip rfl (Sub.skip rfl (Sub.refl _))))))) hk
 refine o_mv rfl rfl ?_
 refine o_and (p := 179) 4 (decide ((Tab.putR tt key value) = put)) ?_ ?_ ?_
 ·intro hb157 hk
  simp only [Bool.and_eq_true, beq_iff_eq] at hb157
  refine o_unguard 175 rfl rfl ?_
  refine o_mv rfl rfl ?_
  refine o_unguard 175 rfl rfl ?_
  refine o_mv rfl rfl ?_
  refine o_unguard 175 rfl rfl ?_
  refine o_call0 (v := .bool (decide ((Tab.putR tt key value) = put))) rfl (sameSlots_ok (Tab.putR tt key value) a3 c4 put aput cput) hf26 (fun w hw => ⟨(rd_own (i := 5) rfl) w hw, (rd_loose (i := 2) rfl (fun hφ => hφ.elim)) w hw⟩) rfl ?_
  refine o_pt rfl rfl rfl ?_
  exact o_sub (sr (Sub.skip rfl (Sub.skip rfl (Sub.skip rfl (Sub.skip rfl (Sub.skip rfl (Sub.refl _))))))) hk
 ·intro hb157 hk
  refine o_guard_no rfl 175 rfl rfl rfl rfl rfl ?_
  refine o_guard_no rfl 175 rfl rfl rfl rfl rfl ?_
  refine o_guard_no rfl 175 rfl rfl rfl rfl rfl ?_
  refine o_pf rfl rfl rfl ?_
  exact o_sub (sr (Sub.skip rfl (Sub.skip rfl (Sub.skip rfl (Sub.skip rfl (Sub.skip rfl (Sub.refl _))))))) hk
 refine o_mv rfl rfl ?_
 refine o_and (p := 184) 4 ((Tab.putErr tt key value) == u) ?_ ?_ ?_
 ·intro hb158 hk
  simp only [Bool.and_eq_true, beq_iff_eq, decide_eq_true_eq] at hb158
  refine o_unguard 180 rfl rfl ?_
  refine o_mv rfl rfl ?_
  refine o_unguard 180 rfl rfl ?_
  refine o_mv rfl rfl ?_
  refine o_unguard 180 rfl rfl ?_
  refine o_p (p_eq rfl rfl) ?_
  refine o_pt rfl rfl rfl ?_
  exact o_sub (sr (Sub.skip rfl (Sub.skip rfl (Sub.skip rfl (Sub.skip rfl (Sub.skip rfl (Sub.refl _))))))) hk
 ·intro hb158 hk
  refine o_guard_no rfl 180 rfl rfl rfl rfl rfl ?_
  refine o_guard_no rfl 180 rfl rfl rfl rfl rfl ?_
  refine o_guard_no rfl 180 rfl rfl rfl rfl rfl ?_
  refine o_pf rfl rfl rfl ?_
  exact o_sub (sr (Sub.skip rfl (Sub.skip rfl (Sub.skip rfl (Sub.skip rfl (Sub.skip rfl (Sub.refl _))))))) hk
 refine o_mv rfl rfl ?_
 refine o_and (p := 189) 4 (decide ((Tab.delR tt key) = less)) ?_ ?_ ?_
 ·intro hb159 hk
  simp only [Bool.and_eq_true, beq_iff_eq, decide_eq_true_eq] at hb159
  refine o_unguard 185 rfl rfl ?_
  refine o_mv rfl rfl ?_
  refine o_unguard 185 rfl rfl ?_
  refine o_mv rfl rfl ?_
  refine o_unguard 185 rfl rfl ?_
  refine o_call0 (v := .bool (decide ((Tab.delR tt key) = less))) rfl (sameSlots_ok (Tab.delR tt key) a8 c9 less aless cless) hf26 (fun w hw => ⟨(rd_own (i := 4) rfl) w hw, (rd_loose (i := 1) rfl (fun hφ => hφ.elim)) w hw⟩) rfl ?_
  refine o_pt rfl rfl rfl ?_
  exact o_sub (sr (Sub.skip rfl (Sub.skip rfl (Sub.skip rfl (Sub.skip rfl (Sub.skip rfl (Sub.refl _))))))) hk
 ·intro hb159 hk
  refine o_guard_no rfl 185 rfl rfl rfl rfl rfl ?_
  refine o_guard_no rfl 185 rfl rfl rfl rfl rfl ?_
  refine o_guard_no rfl 185 rfl rfl rfl rfl rfl ?_
  refine o_pf rfl rfl rfl ?_
  exact o_sub (sr (Sub.skip rfl (Sub.skip rfl (Sub.skip rfl (Sub.skip rfl (Sub.skip rfl (Sub.refl _))))))) hk
 refine o_mv rfl rfl ?_
 refine o_and (p := 194) 4 ((Tab.keyErr tt key) == v) ?_ ?_ ?_
 ·intro hb160 hk
  simp only [Bool.and_eq_true, beq_iff_eq, decide_eq_true_eq] at hb160
  refine o_unguard 190 rfl rfl ?_
  refine o_mv rfl rfl ?_
  refine o_unguard 190 rfl rfl ?_
  refine o_mv rfl rfl ?_
  refine o_unguard 190 rfl rfl ?_
  refine o_p (p_eq rfl rfl) ?_
  refine o_pt rfl rfl rfl ?_
  exact o_sub (sr (Sub.skip rfl (Sub.skip rfl (Sub.skip rfl (Sub.skip rfl (Sub.skip rfl (Sub.refl _))))))) hk
 ·intro hb160 hk
  refine o_guard_no rfl 190 rfl rfl rfl rfl rfl ?_
  refine o_guard_no rfl 190 rfl rfl rfl rfl rfl ?_
  refine o_guard_no rfl 190 rfl rfl rfl rfl rfl ?_
  refine o_pf rfl rfl rfl ?_
  exact o_sub (sr (Sub.skip rfl (Sub.skip rfl (Sub.skip rfl (Sub.skip rfl (Sub.skip rfl (Sub.refl _))))))) hk
 refine o_mv rfl rfl ?_
 refine o_and (p := 199) 4 (decide ((Tab.sizeR tt slots) = grown)) ?_ ?_ ?_
 ·intro hb161 hk
  simp only [Bool.and_eq_true, beq_iff_eq, decide_eq_true_eq] at hb161
  refine o_unguard 195 rfl rfl ?_
  refine o_mv rfl rfl ?_
  refine o_unguard 195 rfl rfl ?_
  refine o_mv rfl rfl ?_
  refine o_unguard 195 rfl rfl ?_
  refine o_call0 (v := .bool (decide ((Tab.sizeR tt slots) = grown))) rfl (sameSlots_ok (Tab.sizeR tt slots) a13 c14 grown agrown cgrown) hf26 (fun w hw => ⟨(rd_own (i := 3) rfl) w hw, (rd_loose (i := 0) rfl (fun hφ => hφ.elim)) w hw⟩) rfl ?_
  refine o_pt rfl rfl rfl ?_
  exact o_sub (sr (Sub.skip rfl (Sub.skip rfl (Sub.skip rfl (Sub.skip rfl (Sub.skip rfl (Sub.refl _))))))) hk
 ·intro hb161 hk
  refine o_guard_no rfl 195 rfl rfl rfl rfl rfl ?_
  refine o_guard_no rfl 195 rfl rfl rfl rfl rfl ?_
  refine o_guard_no rfl 195 rfl rfl rfl rfl rfl ?_
  refine o_pf rfl rfl rfl ?_
  exact o_sub (sr (Sub.skip rfl (Sub.skip rfl (Sub.skip rfl (Sub.skip rfl (Sub.skip rfl (Sub.refl _))))))) hk
 refine o_mv rfl rfl ?_
 refine o_and (p := 204) 4 ((Tab.sizeErr tt slots) == o) ?_ ?_ ?_
 ·intro hb162 hk
  simp only [Bool.and_eq_true, beq_iff_eq, decide_eq_true_eq] at hb162
  refine o_unguard 200 rfl rfl ?_
  refine o_mv rfl rfl ?_
  refine o_unguard 200 rfl rfl ?_
  refine o_mv rfl rfl ?_
  refine o_unguard 200 rfl rfl ?_
  refine o_p (p_eq rfl rfl) ?_
  refine o_pt rfl rfl rfl ?_
  exact o_sub (sr (Sub.skip rfl (Sub.skip rfl (Sub.skip rfl (Sub.skip rfl (Sub.skip rfl (Sub.refl _))))))) hk
 ·intro hb162 hk
  refine o_guard_no rfl 200 rfl rfl rfl rfl rfl ?_
  refine o_guard_no rfl 200 rfl rfl rfl rfl rfl ?_
  refine o_guard_no rfl 200 rfl rfl rfl rfl rfl ?_
  refine o_pf rfl rfl rfl ?_
  exact o_sub (sr (Sub.skip rfl (Sub.skip rfl (Sub.skip rfl (Sub.skip rfl (Sub.skip rfl (Sub.refl _))))))) hk
 refine o_as rfl rfl ?_
 refine o_nil (q_then (c_ret ?_))
 have hr0 : ((((((((((((Tab.check tt) == (Tab.check tt)) && ((Tab.has tt key) == has)) && ((Tab.looked tt key) == many)) && ((Tab.keyErr tt key) == v)) && (decide ((Tab.putR tt key value) = put))) && ((Tab.putErr tt key value) == u)) && (decide ((Tab.delR tt key) = less))) && ((Tab.keyErr tt key) == v)) && (decide ((Tab.sizeR tt slots) = grown))) && ((Tab.sizeErr tt slots) == o)) : Bool) = true := by
  obtain ⟨⟨rfl, rfl, rfl, rfl⟩, ⟨rfl, rfl⟩, rfl, rfl⟩ := hj1; simp
 refine q_end0 (v := .bool (((((((((((Tab.check tt) == (Tab.check tt)) && ((Tab.has tt key) == has)) && ((Tab.looked tt key) == many)) && ((Tab.keyErr tt key) == v)) && (decide ((Tab.putR tt key value) = put))) && ((Tab.putErr tt key value) == u)) && (decide ((Tab.delR tt key) = less))) && ((Tab.keyErr tt key) == v)) && (decide ((Tab.sizeR tt slots) = grown))) && ((Tab.sizeErr tt slots) == o))) (rt1 rfl (r_tmp rfl)) (i := 6) rfl ?_
 exact (by have hcc := congrArg (fun (y0 : Bool) => (.bool y0 : Value)) hr0; exact hcc)
end Go.Proofs.Ythecfjipaepcgaa

/- How the arguments read. -/
namespace Go.Proofs.Ythecfjipaepcgaa
open Go.ChangeShapes Go.WideShapes Go.ChangeAt Go.RowKit Go.Sx
def WtSlot (c : DSlot) : Prop := c.key.size ≤ 9223372036854775807 ∧ In64 c.value
set_option maxRecDepth 100000 in
theorem elTy_slot : ElTy Try.prog 33 tSlot WtSlot := by
 refine ⟨by kernel_rfl, by decide, fun {H} enc w fuel cs x h => ?_⟩
 obtain ⟨xs, n, _, _, hl, hxs, hf⟩ := DataW.trod_struct Try.underlying33 h
 rw [show Try.prog.cellsOf 33 = 3 by kernel_rfl] at hl
 match cs, hl, xs, hxs with
 | [c0, c1, c2], _, [y0, y1, y2], _ =>
  have k3 : Try.prog.cellsOf 3 = 1 := by kernel_rfl
  have k4 : Try.prog.cellsOf 4 = 1 := by kernel_rfl
  have k9 : Try.prog.cellsOf 9 = 1 := by kernel_rfl
  have h0 : DataW.trod enc Try.prog w 0 (fun _ => true) true n 4 (([c0, c1, c2].drop 0).take (Try.prog.cellsOf 4)) = some y0 := hf 0 _ rfl
  rw [k4] at h0
  simp only [List.drop_zero, List.drop_succ_cons, List.take_succ_cons, List.take_zero] at h0
  obtain ⟨z0, e0, _⟩ := DataW.trod_bool Try.underlying4 h0
  simp only [List.cons.injEq, and_true] at e0
  have h1 : DataW.trod enc Try.prog w 0 (fun _ => true) true n 9 (([c0, c1, c2].drop 1).take (Try.prog.cellsOf 9)) = some y1 := hf 1 _ rfl
  rw [k9] at h1
  simp only [List.drop_zero, List.drop_succ_cons, List.take_succ_cons, List.take_zero] at h1
  obtain ⟨z1, e1, _, w1⟩ := DataW.trod_string Try.underlying9 h1
  simp only [List.cons.injEq, and_true] at e1
  have h2 : DataW.trod enc Try.prog w 0 (fun _ => true) true n 3 (([c0, c1, c2].drop 2).take (Try.prog.cellsOf 3)) = some y2 := hf 2 _ rfl
  rw [k3] at h2
  simp only [List.drop_zero, List.drop_succ_cons, List.take_succ_cons, List.take_zero] at h2
  obtain ⟨z2, e2, _, w2⟩ := DataW.trod_int Try.underlying3 h2
  simp only [List.cons.injEq, and_true] at e2
  subst e0 e1 e2
  exact ⟨⟨z0, z1, z2⟩, rfl, ⟨w1, in64_of w2⟩⟩
end Go.Proofs.Ythecfjipaepcgaa
