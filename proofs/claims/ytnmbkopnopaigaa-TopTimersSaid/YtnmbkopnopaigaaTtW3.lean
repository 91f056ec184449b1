/- The walks, printed by a program from the translation and a specification. -/
import Derived.Test.YtnmbkopnopaigaaTtF
import Derived.Test.YtnmbkopnopaigaaExPureM20
import Derived.Test.YtnmbkopnopaigaaLrLawM2
import Derived.Test.YtnmbkopnopaigaaTtW1M2
namespace Go.Proofs.Ytnmbkopnopaigaa
open Go.Sx Go.RowKit
set_option maxHeartbeats 8000000 in
set_option maxRecDepth 100000 in
theorem clone_Timer_ok (l : List DTimer) (al : Option Addr) (cl : Nat) (hy1 : l.length ≤ 1000000) : FnM Try.prog 107 [.slice al l.length cl] (fun w => Rd tTimer w al cl l) (Option Addr × Nat) (fun p => .slice p.1 l.length p.2) (fun p S w => SlO tTimer S w p.1 p.2 l) := by
 refine fnM (nt := 8) (F0 := [(0, .slice al l.length cl)]) Try.func107 rfl Try.ntmps107 rfl rfl (fun w0 hpre => ?_)
 have hl := hpre
 have hlhl := hl.2.1
 refine c_seq (c_region ?_)
 refine o_as rfl rfl ?_
 refine o_nil (q_then (c_seq (c_seq (c_region ?_))))
 refine o_mv rfl rfl ?_
 refine o_p (p_eqNil rfl rfl Try.underlying57) ?_
 refine o_nil (q_then ?_)
 refine c_cond rfl (fun hc1 => ?_) (fun hc1 => ?_)
 ·skip
  refine c_seq (c_region ?_)
  refine o_as rfl rfl ?_
  refine o_nil (q_then (c_ret ?_))
  refine q_then_ret ?_
  have hr0 : ([] : List DTimer) = l := by
   first | exact (rd_isNone hl (by assumption)).symm | simp
  refine q_endM (p := (none, 0)) (fun _ => False) (rt1 rfl (r_tmp rfl)) (i := 0) rfl ?_ ?_ ?_
  ·exact (by have hcc := congrArg (fun (y0 : List DTimer) => (.slice none y0.length 0 : Value)) hr0; exact hcc)
  ·intro w hw b hb; exact hb.elim
  ·intro w hw; exact Eq.mp (congrArg (fun y => SlO tTimer _ w none 0 y) hr0) (SlO.nil tTimer w)
 ·skip
  refine c_skip (q_then (c_seq (c_region ?_)))
  refine o_buildSlice (m := 0) (T := tTimer) (L := []) (vs := []) rfl rfl rfl rfl Try.underlying57 sz52 (by decide) ze52 rfl (by decide) rfl (fun S2 a3 => ?_)
  refine o_mv rfl rfl ?_
  refine o_append (i := 0) (L := []) (M := l) (T := tTimer) rfl rfl rfl (rd_base (i := 1) rfl hl) Try.underlying57 Try.underlying57 (by intro k h; cases h) el52 (by intro z; simp [tTimer, one1]) (by decide) (by simp only [List.length_nil]; omega) rfl (fun a5 c6 S7 => ?_)
  refine o_as rfl rfl ?_
  refine o_nil (q_then (c_ret ?_))
  have hr0 : (([] ++ l) : List DTimer) = l := by
   first | exact (rd_isNone hl (by assumption)).symm | simp
  refine q_endM (p := (a5, c6)) S7 (rt1 rfl (r_tmp rfl)) (i := 1) rfl ?_ ?_ ?_
  ·exact (by have hcc := congrArg (fun (y0 : List DTimer) => (.slice a5 y0.length c6 : Value)) hr0; exact hcc)
  ·exact fun w hw => hw.above (i := 1) (j := 0) (by decide) rfl rfl
  ·intro w hw; exact Eq.mp (congrArg (fun y => SlO tTimer _ w a5 c6 y) hr0) ((hw.at (i := 0) rfl).here)

set_option maxHeartbeats 8000000 in
set_option maxRecDepth 100000 in
theorem wown_ok (wh : DWheel) (awh_0 : Option Addr) (cwh_0 : NC) (hy1 : wh.slots.length ≤ 48 ∧ ∀ i, (wh.slots.getD i []).length ≤ 60) : FnM Try.prog 69 [.agg #[Vi wh.now, .slice awh_0 wh.slots.length cwh_0.n]] (fun w => RdN tTimer w awh_0 cwh_0 wh.slots) (Option Addr × NC) (fun p => .agg #[Vi wh.now, .slice p.1 wh.slots.length p.2.n]) (fun p S w => SlON tTimer S w p.1 p.2 wh.slots) := by
 refine fnM (nt := 25) (F0 := [(0, .agg #[Vi wh.now, .slice awh_0 wh.slots.length cwh_0.n])]) Try.func69 rfl Try.ntmps69 rfl rfl (fun w0 hpre => ?_)
 have hwh_0 := hpre
 have hlhwh_0 := hwh_0.2.1
 refine c_seq (c_region ?_)
 refine o_box (v := .agg #[Vi wh.now, .slice awh_0 wh.slots.length cwh_0.n]) rfl rfl (fun B1 => ?_)
 refine o_alloc ze50 rfl (fun B2 => ?_)
 refine o_nil (q_then (c_seq (c_region ?_)))
 refine o_p (p_fieldAddr (j' := 0) rfl fo50_0 rfl) ?_
 refine o_p (p_load (i := 1) (v := Vi wh.now) rfl rfl sh3 rfl) ?_
 refine o_p (p_build (cells := [Vi wh.now, .slice none 0 0]) fp50 ze50 rfl rfl) ?_
 refine o_alloc ze50 rfl (fun B3 => ?_)
 refine o_storeN (i := 0) (vs := [Vi wh.now, .slice none 0 0]) (cs' := [Vi wh.now, .slice none 0 0]) rfl rfl rfl sz50 rfl rfl rfl rfl ?_
 refine o_nil (q_then (c_seq (c_seq (c_region ?_))))
 refine o_p (p_fieldAddr (j' := 1) rfl fo50_1 rfl) ?_
 refine o_p (p_load (i := 2) (v := .slice awh_0 wh.slots.length cwh_0.n) rfl rfl sh48 rfl) ?_
 refine o_p (p_len_slice rfl rfl Try.underlying48) ?_
 refine o_mv rfl rfl ?_
 refine o_nil (q_then (c_block ?_))
 refine c_ownNilN tTimer ?_
 refine c_loop (St := Nat × DWheel × Option Addr × NC × (Nat → Prop))
  (fun ⟨k, oo, aoo_0, coo_0, Soo_0⟩ => [(2, .pointer (some ⟨B2, 0, none⟩)), (3, .pointer (some ⟨B3, 0, none⟩)), (10, .slice awh_0 wh.slots.length cwh_0.n), (11, Vi (wh.slots.length : Int)), (12, Vi (k : Int))])
  (fun ⟨k, oo, aoo_0, coo_0, Soo_0⟩ => [ownN tTimer Soo_0 aoo_0 coo_0 oo.slots, box B3 [Vi oo.now, .slice aoo_0 oo.slots.length coo_0.n] 50, box B2 [Vi 0, .slice none 0 0] 50, box B1 [Vi wh.now, .slice awh_0 wh.slots.length cwh_0.n] 50, base w0])
  (fun ⟨k, oo, aoo_0, coo_0, Soo_0⟩ => k ≤ wh.slots.length ∧ oo = ⟨wh.now, wh.slots.take k⟩)
  (fun ⟨k, oo, aoo_0, coo_0, Soo_0⟩ => wh.slots.length - k)
  (0, (⟨wh.now, []⟩ : DWheel), none, nc0, (fun _ => False)) ?_ (sr (sr (sr (sr (sr (Sub.nil _)))))) (fun _ hw => hw) ?_
 ·exact ⟨Nat.zero_le _, rfl⟩
 rintro ⟨k, oo, aoo_0, coo_0, Soo_0⟩ hI K hK5
 have hol : oo.slots.length = k := by rw [hI.2]; simp; omega
 show SC _ _ Try.prog 25 w0 _ _ [(2, .pointer (some ⟨B2, 0, none⟩)), (3, .pointer (some ⟨B3, 0, none⟩)), (10, .slice awh_0 wh.slots.length cwh_0.n), (11, Vi (wh.slots.length : Int)), (12, Vi (k : Int))] [ownN tTimer Soo_0 aoo_0 coo_0 oo.slots, box B3 [Vi oo.now, .slice aoo_0 oo.slots.length coo_0.n] 50, box B2 [Vi 0, .slice none 0 0] 50, box B1 [Vi wh.now, .slice awh_0 wh.slots.length cwh_0.n] 50, base w0]
 refine c_seq (c_region ?_)
 refine o_p (p_lt rfl rfl) ?_
 refine o_nil (q_then (c_seq ?_))
 refine c_cond rfl (fun hc6 => ?_) (fun hc6 => ?_)
 ·simp only [decide_eq_true_eq] at hc6
  have hrl := hy1.2 k
  refine c_skip (q_then (c_seq (c_block (c_seq (c_region ?_)))))
  refine o_p (p_indexAddrN (T := tTimer) (c := cwh_0) (LL := wh.slots) (i := (k : Int)) rfl rfl (rd_baseN (i := 4) rfl hwh_0) Try.underlying48 sz57 (by first | omega | decide) (by first | omega | decide)) ?_
  refine o_p (p_loadN (T := tTimer) (c := cwh_0) (LL := wh.slots) (i := k) rfl (rd_baseN (i := 4) rfl hwh_0) (by first | assumption | omega | decide) sh57) ?_
  refine o_as rfl rfl ?_
  refine o_nil (q_then ?_)
  refine c_cut (G := Option Addr × Nat × (Nat → Prop) × Option Addr × Option Addr × Nat × (Nat → Prop)) (fun ⟨a7_3, c7_3, S7_4, a7_4, a7_5, c7_5, S7_5⟩ => [(2, .pointer (some ⟨B2, 0, none⟩)), (3, .pointer (some ⟨B3, 0, none⟩)), (10, .slice awh_0 wh.slots.length cwh_0.n), (11, Vi (wh.slots.length : Int)), (12, Vi (k : Int))]) (fun ⟨a7_3, c7_3, S7_4, a7_4, a7_5, c7_5, S7_5⟩ => [ownN tTimer S7_5 a7_5 (coo_0.push c7_5 oo.slots.length a7_3 c7_3) (oo.slots ++ [(wh.slots.getD k [])]), own tHdE S7_4 a7_4 ([(⟨a7_3, (wh.slots.getD k []).length, c7_3⟩ : HdE)].length) ([(⟨a7_3, (wh.slots.getD k []).length, c7_3⟩ : HdE)]), box B3 [Vi oo.now, .slice a7_5 (oo.slots ++ [(wh.slots.getD k [])]).length (coo_0.push c7_5 oo.slots.length a7_3 c7_3).n] 50, box B2 [Vi 0, .slice none 0 0] 50, box B1 [Vi wh.now, .slice awh_0 wh.slots.length cwh_0.n] 50, base w0]) (fun K hK8 => ?_) ?_
  ·refine c_held hmix [box B2 [Vi 0, .slice none 0 0] 50, box B1 [Vi wh.now, .slice awh_0 wh.slots.length cwh_0.n] 50, base w0] rfl rfl ?_
   refine h_tk (i := 0) (ls := #[T1,F0,F0,F0,F0,F0,F0,F0]) rfl (p_fieldAddr (j' := 1) rfl fo50_1 rfl) (dp (lz (lz (lj (lj (lj (ln))))))) ?_
   refine h_tk (i := 2) (ls := #[T1,F0,T1,F0,F0,F0,F0,F0]) rfl (p_move rfl) (dp (lz (lz (lj (lj (lj (ln))))))) ?_
   refine h_two (i := 1) (j := 3) (ls := #[T1,T1,T1,F0,F0,F0,F0,F0]) (ls' := #[T1,F0,T1,T1,F0,F0,F0,F0]) (by kernel_rfl) rfl rfl rfl rfl ?_ ?_
   ·refine o_p (p_load (i := 1) (v := .slice aoo_0 oo.slots.length coo_0.n) rfl rfl sh48 rfl) ?_
    refine o_nil ?_
    refine h_next (dp (lz (lz (lj (lj (lj (ln))))))) ?_
    refine h_one (i := 3) (ls := #[T1,T1,T1,T1,F0,F0,F0,F0]) (by kernel_rfl) rfl rfl ?_
    refine o_callM rfl (clone_Timer_ok (wh.slots.getD k []) (cwh_0.ra k) (cwh_0.rc k) (by first | assumption | omega | (simp only [List.length_append, List.length_take, List.length_drop, List.length_cons, List.length_nil]; omega))) hf107 (fun w hw => (rd_rowN (i := k) (rd_baseN (i := 4) rfl hwh_0) (by first | assumption | omega)) w hw) rfl (fun _ _ _ _ ha hA => SlO.agree ha hA) ?_
    rintro ⟨a7_3, c7_3⟩ S7_3
    refine o_know (fun w hw => own_len (i := 0) (T := tTimer) hw rfl) (fun hlr7_3 => ?_)
    refine o_nil ?_
    refine h_next (dp (lz (lz (lz (lj (lj (lj (ln)))))))) ?_
    refine h_one (i := 4) (ls := #[T1,T1,T1,T1,T1,F0,F0,F0]) (by kernel_rfl) rfl rfl ?_
    refine o_buildSlice (m := 1) (T := tHdE) (L := [(⟨a7_3, (wh.slots.getD k []).length, c7_3⟩ : HdE)]) (vs := [.slice a7_3 (wh.slots.getD k []).length c7_3]) rfl rfl rfl rfl Try.underlying48 sz57 (by decide) ze57 rfl (by decide) rfl (fun S7_4 a7_4 => ?_)
    refine o_nil ?_
    refine h_next (dp (lz (lz (lz (lz (lj (lj (lj (ln))))))))) ?_
    refine h_one (i := 5) (ls := #[T1,T1,T1,T1,T1,T1,F0,F0]) (by kernel_rfl) rfl rfl ?_
    refine o_pick (H' := [ownN tTimer Soo_0 aoo_0 coo_0 oo.slots, own tTimer S7_3 a7_3 c7_3 (wh.slots.getD k []), own tHdE S7_4 a7_4 ([(⟨a7_3, (wh.slots.getD k []).length, c7_3⟩ : HdE)].length) ([(⟨a7_3, (wh.slots.getD k []).length, c7_3⟩ : HdE)]), box B3 [Vi oo.now, .slice aoo_0 oo.slots.length coo_0.n] 50, box B2 [Vi 0, .slice none 0 0] 50, box B1 [Vi wh.now, .slice awh_0 wh.slots.length cwh_0.n] 50, base w0]) [2, 1, 0, 3, 4, 5, 6] (by decide) rfl ?_
    refine o_appendN (j := 0) (T := tTimer) (c := coo_0) (LL := oo.slots) (L := (wh.slots.getD k [])) rfl rfl rfl Try.underlying48 Try.underlying48 (by intro k h; cases h) el57 (by first | omega | (simp only [List.length_cons, List.length_nil]; omega) | (simp only [List.length_append, List.length_cons, List.length_nil, List.length_take, List.length_drop]; omega)) rfl (fun a7_5 c7_5 S7_5 => ?_)
    refine o_nil ?_
    refine h_next (dp (lz (lz (lz (lj (lj (lj (ln)))))))) ?_
    refine h_tk (i := 6) (ls := #[T1,T1,T1,T1,T1,T1,T1,F0]) rfl (p_fieldAddr (j' := 1) rfl fo50_1 rfl) (dp (lz (lz (lz (lj (lj (lj (ln)))))))) ?_
    refine h_one (i := 7) (ls := #[T1,T1,T1,T1,T1,T1,T1,T1]) (by kernel_rfl) rfl rfl ?_
    refine o_store (i := 2) (v := .slice a7_5 (oo.slots ++ [(wh.slots.getD k [])]).length (coo_0.push c7_5 oo.slots.length a7_3 c7_3).n) (cs' := [Vi oo.now, .slice a7_5 (oo.slots ++ [(wh.slots.getD k [])]).length (coo_0.push c7_5 oo.slots.length a7_3 c7_3).n]) rfl rfl rfl sz48 rfl rfl rfl ?_
    refine o_nil ?_
    refine h_next (dp (lz (lz (lz (lj (lj (lj (ln)))))))) ?_
    refine h_done (by kernel_rfl) ?_
    refine q_kont hK8 (a7_3, c7_3, S7_4, a7_4, a7_5, c7_5, S7_5) (sr (sr (sr (sr (sr (Sub.nil _)))))) (pk [0, 1, 2, 3, 4, 5])
   ·refine o_callM rfl (clone_Timer_ok (wh.slots.getD k []) (cwh_0.ra k) (cwh_0.rc k) (by first | assumption | omega | (simp only [List.length_append, List.length_take, List.length_drop, List.length_cons, List.length_nil]; omega))) hf107 (fun w hw => (rd_rowN (i := k) (rd_baseN (i := 4) rfl hwh_0) (by first | assumption | omega)) w hw) rfl (fun _ _ _ _ ha hA => SlO.agree ha hA) ?_
    rintro ⟨a7_3, c7_3⟩ S7_3
    refine o_know (fun w hw => own_len (i := 0) (T := tTimer) hw rfl) (fun hlr7_3 => ?_)
    refine o_nil ?_
    refine h_next (dp (lz (lz (lz (lj (lj (lj (ln)))))))) ?_
    refine h_two (i := 1) (j := 4) (ls := #[T1,T1,T1,T1,F0,F0,F0,F0]) (ls' := #[T1,F0,T1,T1,T1,F0,F0,F0]) (by kernel_rfl) rfl rfl rfl rfl ?_ ?_
    ·refine o_p (p_load (i := 2) (v := .slice aoo_0 oo.slots.length coo_0.n) rfl rfl sh48 rfl) ?_
     refine o_nil ?_
     refine h_next (dp (lz (lz (lz (lj (lj (lj (ln)))))))) ?_
     refine h_one (i := 4) (ls := #[T1,T1,T1,T1,T1,F0,F0,F0]) (by kernel_rfl) rfl rfl ?_
     refine o_buildSlice (m := 1) (T := tHdE) (L := [(⟨a7_3, (wh.slots.getD k []).length, c7_3⟩ : HdE)]) (vs := [.slice a7_3 (wh.slots.getD k []).length c7_3]) rfl rfl rfl rfl Try.underlying48 sz57 (by decide) ze57 rfl (by decide) rfl (fun S7_4 a7_4 => ?_)
     refine o_nil ?_
     refine h_next (dp (lz (lz (lz (lz (lj (lj (lj (ln))))))))) ?_
     refine h_one (i := 5) (ls := #[T1,T1,T1,T1,T1,T1,F0,F0]) (by kernel_rfl) rfl rfl ?_
     refine o_pick (H' := [ownN tTimer Soo_0 aoo_0 coo_0 oo.slots, own tTimer S7_3 a7_3 c7_3 (wh.slots.getD k []), own tHdE S7_4 a7_4 ([(⟨a7_3, (wh.slots.getD k []).length, c7_3⟩ : HdE)].length) ([(⟨a7_3, (wh.slots.getD k []).length, c7_3⟩ : HdE)]), box B3 [Vi oo.now, .slice aoo_0 oo.slots.length coo_0.n] 50, box B2 [Vi 0, .slice none 0 0] 50, box B1 [Vi wh.now, .slice awh_0 wh.slots.length cwh_0.n] 50, base w0]) [2, 1, 0, 3, 4, 5, 6] (by decide) rfl ?_
     refine o_appendN (j := 0) (T := tTimer) (c := coo_0) (LL := oo.slots) (L := (wh.slots.getD k [])) rfl rfl rfl Try.underlying48 Try.underlying48 (by intro k h; cases h) el57 (by first | omega | (simp only [List.length_cons, List.length_nil]; omega) | (simp only [List.length_append, List.length_cons, List.length_nil, List.length_take, List.length_drop]; omega)) rfl (fun a7_5 c7_5 S7_5 => ?_)
     refine o_nil ?_
     refine h_next (dp (lz (lz (lz (lj (lj (lj (ln)))))))) ?_
     refine h_tk (i := 6) (ls := #[T1,T1,T1,T1,T1,T1,T1,F0]) rfl (p_fieldAddr (j' := 1) rfl fo50_1 rfl) (dp (lz (lz (lz (lj (lj (lj (ln)))))))) ?_
     refine h_one (i := 7) (ls := #[T1,T1,T1,T1,T1,T1,T1,T1]) (by kernel_rfl) rfl rfl ?_
     refine o_store (i := 2) (v := .slice a7_5 (oo.slots ++ [(wh.slots.getD k [])]).length (coo_0.push c7_5 oo.slots.length a7_3 c7_3).n) (cs' := [Vi oo.now, .slice a7_5 (oo.slots ++ [(wh.slots.getD k [])]).length (coo_0.push c7_5 oo.slots.length a7_3 c7_3).n]) rfl rfl rfl sz48 rfl rfl rfl ?_
     refine o_nil ?_
     refine h_next (dp (lz (lz (lz (lj (lj (lj (ln)))))))) ?_
     refine h_done (by kernel_rfl) ?_
     refine q_kont hK8 (a7_3, c7_3, S7_4, a7_4, a7_5, c7_5, S7_5) (sr (sr (sr (sr (sr (Sub.nil _)))))) (pk [0, 1, 2, 3, 4, 5])
    ·refine o_buildSlice (m := 1) (T := tHdE) (L := [(⟨a7_3, (wh.slots.getD k []).length, c7_3⟩ : HdE)]) (vs := [.slice a7_3 (wh.slots.getD k []).length c7_3]) rfl rfl rfl rfl Try.underlying48 sz57 (by decide) ze57 rfl (by decide) rfl (fun S7_4 a7_4 => ?_)
     refine o_nil ?_
     refine h_next (dp (lz (lz (lz (lz (lj (lj (lj (ln))))))))) ?_
     refine h_one (i := 1) (ls := #[T1,T1,T1,T1,T1,F0,F0,F0]) (by kernel_rfl) rfl rfl ?_
     refine o_p (p_load (i := 3) (v := .slice aoo_0 oo.slots.length coo_0.n) rfl rfl sh48 rfl) ?_
     refine o_nil ?_
     refine h_next (dp (lz (lz (lz (lz (lj (lj (lj (ln))))))))) ?_
     refine h_one (i := 5) (ls := #[T1,T1,T1,T1,T1,T1,F0,F0]) (by kernel_rfl) rfl rfl ?_
     refine o_pick (H' := [ownN tTimer Soo_0 aoo_0 coo_0 oo.slots, own tTimer S7_3 a7_3 c7_3 (wh.slots.getD k []), own tHdE S7_4 a7_4 ([(⟨a7_3, (wh.slots.getD k []).length, c7_3⟩ : HdE)].length) ([(⟨a7_3, (wh.slots.getD k []).length, c7_3⟩ : HdE)]), box B3 [Vi oo.now, .slice aoo_0 oo.slots.length coo_0.n] 50, box B2 [Vi 0, .slice none 0 0] 50, box B1 [Vi wh.now, .slice awh_0 wh.slots.length cwh_0.n] 50, base w0]) [2, 1, 0, 3, 4, 5, 6] (by decide) rfl ?_
     refine o_appendN (j := 0) (T := tTimer) (c := coo_0) (LL := oo.slots) (L := (wh.slots.getD k [])) rfl rfl rfl Try.underlying48 Try.underlying48 (by intro k h; cases h) el57 (by first | omega | (simp only [List.length_cons, List.length_nil]; omega) | (simp only [List.length_append, List.length_cons, List.length_nil, List.length_take, List.length_drop]; omega)) rfl (fun a7_5 c7_5 S7_5 => ?_)
     refine o_nil ?_
     refine h_next (dp (lz (lz (lz (lj (lj (lj (ln)))))))) ?_
     refine h_tk (i := 6) (ls := #[T1,T1,T1,T1,T1,T1,T1,F0]) rfl (p_fieldAddr (j' := 1) rfl fo50_1 rfl) (dp (lz (lz (lz (lj (lj (lj (ln)))))))) ?_
     refine h_one (i := 7) (ls := #[T1,T1,T1,T1,T1,T1,T1,T1]) (by kernel_rfl) rfl rfl ?_
     refine o_store (i := 2) (v := .slice a7_5 (oo.slots ++ [(wh.slots.getD k [])]).length (coo_0.push c7_5 oo.slots.length a7_3 c7_3).n) (cs' := [Vi oo.now, .slice a7_5 (oo.slots ++ [(wh.slots.getD k [])]).length (coo_0.push c7_5 oo.slots.length a7_3 c7_3).n]) rfl rfl rfl sz48 rfl rfl rfl ?_
     refine o_nil ?_
     refine h_next (dp (lz (lz (lz (lj (lj (lj (ln)))))))) ?_
     refine h_done (by kernel_rfl) ?_
     refine q_kont hK8 (a7_3, c7_3, S7_4, a7_4, a7_5, c7_5, S7_5) (sr (sr (sr (sr (sr (Sub.nil _)))))) (pk [0, 1, 2, 3, 4, 5])
  rintro ⟨a7_3, c7_3, S7_4, a7_4, a7_5, c7_5, S7_5⟩
  show SQ _ 25 w0 _ _ [(2, .pointer (some ⟨B2, 0, none⟩)), (3, .pointer (some ⟨B3, 0, none⟩)), (10, .slice awh_0 wh.slots.length cwh_0.n), (11, Vi (wh.slots.length : Int)), (12, Vi (k : Int))] [ownN tTimer S7_5 a7_5 (coo_0.push c7_5 oo.slots.length a7_3 c7_3) (oo.slots ++ [(wh.slots.getD k [])]), own tHdE S7_4 a7_4 ([(⟨a7_3, (wh.slots.getD k []).length, c7_3⟩ : HdE)].length) ([(⟨a7_3, (wh.slots.getD k []).length, c7_3⟩ : HdE)]), box B3 [Vi oo.now, .slice a7_5 (oo.slots ++ [(wh.slots.getD k [])]).length (coo_0.push c7_5 oo.slots.length a7_3 c7_3).n] 50, box B2 [Vi 0, .slice none 0 0] 50, box B1 [Vi wh.now, .slice awh_0 wh.slots.length cwh_0.n] 50, base w0]
  refine q_block_normal (q_then ?_)
  refine c_region ?_
  refine o_p (p_addb rfl rfl (by omega)) ?_
  refine o_mv rfl rfl ?_
  refine o_nil ?_
  refine q_round hK5 (k + 1, (⟨oo.now, (oo.slots ++ [(wh.slots.getD k [])])⟩ : DWheel), a7_5, (coo_0.push c7_5 oo.slots.length a7_3 c7_3), S7_5) ?_ ?_ ?_ ?_
  ·clear hK5
   exact ⟨by omega, by rw [hI.2, Wh.take_next (by omega)]⟩
  ·(try dsimp only); omega
  ·exact sr (sr (sr (sr (sr (Sub.nil _)))))
  ·exact pk [0, 2, 3, 4, 5]
 ·simp only [decide_eq_false_iff_not, Int.not_lt] at hc6
  refine c_exit ?_
  refine q_then_exit (q_then_exit (q_block_exit (q_then ?_)))
  refine c_seq (c_region ?_)
  refine o_p (p_load_agg (i := 1) (vs := [Vi oo.now, .slice aoo_0 oo.slots.length coo_0.n]) rfl rfl sh50 rfl rfl) ?_
  refine o_storeN (i := 2) (vs := [Vi oo.now, .slice aoo_0 oo.slots.length coo_0.n]) (cs' := [Vi oo.now, .slice aoo_0 oo.slots.length coo_0.n]) rfl rfl rfl sz50 rfl rfl rfl rfl ?_
  refine o_nil (q_then (c_ret ?_))
  have hr0 : (oo.now : Int) = wh.now := by
   first | (rw [hI.2]; exact List.take_of_length_le (by omega)) | (rw [hI.2])
  have hr1 : (oo.slots : List (List DTimer)) = wh.slots := by
   first | (rw [hI.2]; exact List.take_of_length_le (by omega)) | (rw [hI.2])
  refine q_endM (p := (aoo_0, coo_0)) Soo_0 (rt1 rfl (r_cell (i := 2) rfl rfl sh50 rfl)) (i := 4) rfl ?_ ?_ ?_
  ·exact (by have hcc := congr (congrArg (fun (y0 : Int) (y1 : List (List DTimer)) => (.agg #[.int .i64 y0, .slice aoo_0 y1.length coo_0.n] : Value)) hr0) hr1; exact hcc)
  ·exact fun w hw => hw.above (i := 4) (j := 0) (by decide) rfl rfl
  ·intro w hw; exact Eq.mp (congrArg (fun y => SlON tTimer _ w aoo_0 coo_0 y) hr1) ((hw.at (i := 0) rfl).here)

set_option maxHeartbeats 8000000 in
set_option maxRecDepth 100000 in
theorem bsearch_ok (l : List DTimer) (al : Option Addr) (cl : Nat) (target : DTimer) (gf : FuncId) (kf : List Value) (f : DTimer → DTimer → Int) (Pf : World → Prop) (stf : ∀ w w', Below w.heap.size w w' → Pf w → Pf w') (okf : ∀ (x : DTimer) (y : DTimer), Fn0 Try.prog gf (.agg #[Vi x.id, Vi x.due] :: .agg #[Vi y.id, Vi y.due] :: kf) Pf (Vi (f x y))) (hpf : HasFn Try.prog gf) (hy1 : Split (fun x => f x target) l) : Fn0 Try.prog 108 [.slice al l.length cl, .agg #[Vi target.id, Vi target.due], .func (.func gf) #[] kf.toArray] (fun w => Rd tTimer w al cl l ∧ Pf w) (.tuple #[Vi (lowF (fun x => f x target) l : Int), .bool (hitF (fun x => f x target) l)]) := by
 refine fn0 (nt := 49) (F0 := [(0, .slice al l.length cl), (1, .agg #[Vi target.id, Vi target.due]), (2, .func (.func gf) #[] kf.toArray)]) Try.func108 rfl Try.ntmps108 rfl rfl (fun w0 hpre => ?_)
 obtain ⟨hl, hf⟩ := hpre
 have hlhl := hl.2.1
 refine c_seq (c_region ?_)
 refine o_box (v := .agg #[Vi target.id, Vi target.due]) rfl rfl (fun B1 => ?_)
 refine o_as rfl rfl ?_
 refine o_as rfl rfl ?_
 refine o_nil (q_then (c_seq (c_region ?_)))
 refine o_mv rfl rfl ?_
 refine o_p (p_len_slice rfl rfl Try.underlying57) ?_
 refine o_as rfl rfl ?_
 refine o_nil (q_then (c_seq (c_region ?_)))
 refine o_mv rfl rfl ?_
 refine o_as rfl rfl ?_
 refine o_as rfl rfl ?_
 refine o_nil (q_then (c_seq (c_block ?_)))
 refine c_loop (St := Int × Int)
  (fun ⟨i, j⟩ => [(0, .slice al l.length cl), (2, .func (.func gf) #[] kf.toArray), (4, .pointer (some ⟨B1, 0, none⟩)), (8, Vi (l.length : Int)), (9, Vi i), (10, Vi j)])
  (fun ⟨i, j⟩ => [box B1 [Vi target.id, Vi target.due] 52, base w0])
  (fun ⟨i, j⟩ => LowI (fun x => f x target) l i j)
  (fun ⟨i, j⟩ => (j - i).toNat)
  (0, (l.length : Int)) ?_ (sr (sr (sr (sr (sr (sr (Sub.nil _))))))) (fun _ hw => hw) ?_
 ·exact LowI.start _ _
 rintro ⟨i, j⟩ hI K hK2
 have h0 := hI.i0
 have h1 := hI.ij
 have h2 := hI.jl
 have hh := half_eq h0 h1 (by omega)
 show SC _ _ Try.prog 49 w0 _ _ [(0, .slice al l.length cl), (2, .func (.func gf) #[] kf.toArray), (4, .pointer (some ⟨B1, 0, none⟩)), (8, Vi (l.length : Int)), (9, Vi i), (10, Vi j)] [box B1 [Vi target.id, Vi target.due] 52, base w0]
 refine c_seq (c_seq (c_region ?_))
 refine o_mv rfl rfl ?_
 refine o_mv rfl rfl ?_
 refine o_p (p_lt rfl rfl) ?_
 refine o_nil (q_then ?_)
 refine c_cond rfl (fun hc3 => ?_) (fun hc3 => ?_)
 ·simp only [decide_eq_true_eq] at hc3
  refine c_skip (q_then (c_block (c_seq (c_region ?_))))
  refine o_mv rfl rfl ?_
  refine o_mv rfl rfl ?_
  refine o_p (p_addb rfl rfl (by omega)) ?_
  refine o_p (pu_conv (z := (i + j)) rfl Try.underlying3 Try.underlying73) ?_
  refine o_p (pu_shr (p := (toU (i + j))) (m := 1) rfl rfl (by decide)) ?_
  refine o_p (p_conv (z := ((shrU (toU (i + j)) 1).toNat : Int)) rfl Try.underlying73 Try.underlying3) ?_
  refine o_as rfl rfl ?_
  refine o_nil (q_then (c_seq ?_))
  refine c_held hmix [box B1 [Vi target.id, Vi target.due] 52, base w0] rfl rfl ?_
  refine h_t0 (i := 0) (ls := #[T1,F0,F0,F0,F0,F0,F0,F0]) rfl (p_move rfl) ?_
  refine h_t0 (i := 1) (ls := #[T1,T1,F0,F0,F0,F0,F0,F0]) rfl (p_move rfl) ?_
  refine h_t0 (i := 2) (ls := #[T1,T1,T1,F0,F0,F0,F0,F0]) rfl (p_move rfl) ?_
  refine h_t0 (i := 3) (ls := #[T1,T1,T1,T1,F0,F0,F0,F0]) rfl (p_indexAddr (L := l) (T := tTimer) (i := (IntKind.i64.wrap ((shrU (toU (i + j)) 1).toNat : Int))) rfl rfl (rd_base (i := 1) rfl hl) Try.underlying57 sz52 (by omega) (by omega)) ?_
  refine h_t0 (i := 4) (ls := #[T1,T1,T1,T1,T1,F0,F0,F0]) rfl (p_loadEn (i := (IntKind.i64.wrap ((shrU (toU (i + j)) 1).toNat : Int)).toNat) (T := tTimer) (L := l) (vs := [Vi ((l.getD ((IntKind.i64.wrap ((shrU (toU (i + j)) 1).toNat : Int)).toNat) default).id), Vi ((l.getD ((IntKind.i64.wrap ((shrU (toU (i + j)) 1).toNat : Int)).toNat) default).due)]) rfl (rd_base (i := 1) rfl hl) (by first | assumption | omega) sh52 (congrArg tTimer.enc (getd_at (by first | assumption | omega) default))) ?_
  refine h_t0 (i := 5) (ls := #[T1,T1,T1,T1,T1,T1,F0,F0]) rfl (p_load_agg (i := 0) (vs := [Vi target.id, Vi target.due]) rfl rfl sh52 rfl rfl) ?_
  refine h_one (i := 6) (ls := #[T1,T1,T1,T1,T1,T1,T1,F0]) (by kernel_rfl) rfl rfl ?_
  refine o_call0V (vs := [.agg #[Vi ((l.getD ((IntKind.i64.wrap ((shrU (toU (i + j)) 1).toNat : Int)).toNat) default).id), Vi ((l.getD ((IntKind.i64.wrap ((shrU (toU (i + j)) 1).toNat : Int)).toNat) default).due)], .agg #[Vi target.id, Vi target.due]]) (caps := kf) (v := Vi (f (l.getD ((IntKind.i64.wrap ((shrU (toU (i + j)) 1).toNat : Int)).toNat) default) target)) rfl rfl (okf (l.getD ((IntKind.i64.wrap ((shrU (toU (i + j)) 1).toNat : Int)).toNat) default) target) hpf (pre_base (i := 1) rfl stf hf) rfl ?_
  refine o_nil ?_
  refine h_next (dp (lr)) ?_
  refine h_t0 (i := 7) (ls := #[T1,T1,T1,T1,T1,T1,T1,T1]) rfl (p_lt rfl rfl) ?_
  refine h_done (by kernel_rfl) ?_
  refine q_then ?_
  refine c_cond rfl (fun hc5 => ?_) (fun hc5 => ?_)
  ·simp only [decide_eq_true_eq] at hc5
   refine c_region ?_
   refine o_mv rfl rfl ?_
   refine o_p (p_addb rfl rfl (by omega)) ?_
   refine o_as rfl rfl ?_
   refine o_nil ?_
   refine q_block_normal ?_
   refine q_round hK2 (((IntKind.i64.wrap ((shrU (toU (i + j)) 1).toNat : Int)) + 1), j) ?_ ?_ ?_ ?_
   ·clear hK2
    first | exact hI.up hy1 (by omega) (by omega) (by omega) (by rw [getd_at (by omega) default]; assumption) | exact hI.down hy1 (by omega) (by omega) (by omega) (by rw [getd_at (by omega) default]; assumption)
   ·(try dsimp only); omega
   ·exact sr (sr (sr (sr (sr (sr (Sub.nil _))))))
   ·exact pk [0, 1]
  ·simp only [decide_eq_false_iff_not, Int.not_lt] at hc5
   refine c_region ?_
   refine o_mv rfl rfl ?_
   refine o_as rfl rfl ?_
   refine o_nil ?_
   refine q_block_normal ?_
   refine q_round hK2 (i, (IntKind.i64.wrap ((shrU (toU (i + j)) 1).toNat : Int))) ?_ ?_ ?_ ?_
   ·clear hK2
    first | exact hI.up hy1 (by omega) (by omega) (by omega) (by rw [getd_at (by omega) default]; assumption) | exact hI.down hy1 (by omega) (by omega) (by omega) (by rw [getd_at (by omega) default]; assumption)
   ·(try dsimp only); omega
   ·exact sr (sr (sr (sr (sr (sr (Sub.nil _))))))
   ·exact pk [0, 1]
 ·simp only [decide_eq_false_iff_not, Int.not_lt] at hc3
  refine c_exit ?_
  refine q_then_exit (q_then_exit (q_block_exit (q_then ?_)))
  refine c_seq ?_
  rcases hkn : decide (i < (l.length : Int)) with _ | _
  ·have hkq : ¬ i < (l.length : Int) := by simpa using hkn
   refine c_held hmix [box B1 [Vi target.id, Vi target.due] 52, base w0] rfl rfl ?_
   refine h_t0 (i := 0) (ls := #[T1,F0,F0,F0,F0,F0,F0,F0,F0,F0,F0,F0,F0,F0,F0,F0]) rfl (p_move rfl) ?_
   refine h_t0 (i := 1) (ls := #[T1,T1,F0,F0,F0,F0,F0,F0,F0,F0,F0,F0,F0,F0,F0,F0]) rfl (p_move rfl) ?_
   refine h_t0 (i := 2) (ls := #[T1,T1,T1,F0,F0,F0,F0,F0,F0,F0,F0,F0,F0,F0,F0,F0]) rfl (p_move rfl) ?_
   refine h_t0 (i := 3) (ls := #[T1,T1,T1,T1,F0,F0,F0,F0,F0,F0,F0,F0,F0,F0,F0,F0]) rfl (p_known hkn (p_lt rfl rfl)) ?_
   refine h_t0 (i := 4) (ls := #[T1,T1,T1,T1,T1,F0,F0,F0,F0,F0,F0,F0,F0,F0,F0,F0]) rfl (p_move rfl) ?_
   refine h_takeNo (i := 5) (ls := #[T1,T1,T1,T1,T1,T1,F0,F0,F0,F0,F0,F0,F0,F0,F0,F0]) rfl (by kernel_rfl) (by kernel_rfl) (by kernel_rfl) (fun _ _ _ h => h) rfl 39 rfl rfl rfl rfl rfl (dp (lr)) rfl ?_
   refine h_takeNo (i := 6) (ls := #[T1,T1,T1,T1,T1,T1,T1,F0,F0,F0,F0,F0,F0,F0,F0,F0]) rfl (by kernel_rfl) (by kernel_rfl) (by kernel_rfl) (fun _ _ _ h => h) rfl 39 rfl rfl rfl rfl rfl (dp (lr)) rfl ?_
   refine h_takeNo (i := 7) (ls := #[T1,T1,T1,T1,T1,T1,T1,T1,F0,F0,F0,F0,F0,F0,F0,F0]) rfl (by kernel_rfl) (by kernel_rfl) (by kernel_rfl) (fun _ _ _ h => h) rfl 39 rfl rfl rfl rfl rfl (dp (lr)) rfl ?_
   refine h_takeNo (i := 8) (ls := #[T1,T1,T1,T1,T1,T1,T1,T1,T1,F0,F0,F0,F0,F0,F0,F0]) rfl (by kernel_rfl) (by kernel_rfl) (by kernel_rfl) (fun _ _ _ h => h) rfl 39 rfl rfl rfl rfl rfl (dp (lr)) rfl ?_
   refine h_takeNo (i := 9) (ls := #[T1,T1,T1,T1,T1,T1,T1,T1,T1,T1,F0,F0,F0,F0,F0,F0]) rfl (by kernel_rfl) (by kernel_rfl) (by kernel_rfl) (fun _ _ _ h => h) rfl 39 rfl rfl rfl rfl rfl (dp (lr)) rfl ?_
   refine h_takeNo (i := 10) (ls := #[T1,T1,T1,T1,T1,T1,T1,T1,T1,T1,T1,F0,F0,F0,F0,F0]) rfl (by kernel_rfl) (by kernel_rfl) (by kernel_rfl) (fun _ _ _ h => h) rfl 39 rfl rfl rfl rfl rfl (dp (lr)) rfl ?_
   refine h_takeNo (i := 11) (ls := #[T1,T1,T1,T1,T1,T1,T1,T1,T1,T1,T1,T1,F0,F0,F0,F0]) rfl (by kernel_rfl) (by kernel_rfl) (by kernel_rfl) (fun _ _ _ h => h) rfl 39 rfl rfl rfl rfl rfl (dp (lr)) rfl ?_
   refine h_takeNo (i := 12) (ls := #[T1,T1,T1,T1,T1,T1,T1,T1,T1,T1,T1,T1,T1,F0,F0,F0]) rfl (by kernel_rfl) (by kernel_rfl) (by kernel_rfl) (fun _ _ _ h => h) rfl 39 rfl rfl rfl rfl rfl (dp (lr)) rfl ?_
   refine h_t0 (i := 13) (ls := #[T1,T1,T1,T1,T1,T1,T1,T1,T1,T1,T1,T1,T1,T1,F0,F0]) rfl (p_pick_false (v := .bool false) rfl rfl) ?_
   refine h_t0 (i := 14) (ls := #[T1,T1,T1,T1,T1,T1,T1,T1,T1,T1,T1,T1,T1,T1,T1,F0]) rfl (p_assign rfl) ?_
   refine h_t0 (i := 15) (ls := #[T1,T1,T1,T1,T1,T1,T1,T1,T1,T1,T1,T1,T1,T1,T1,T1]) rfl (p_assign rfl) ?_
   refine h_done (by kernel_rfl) ?_
   refine q_then (c_ret ?_)
   have hr0 : (i : Int) = (lowF (fun x => f x target) l : Int) := by
    exact hI.done (by omega)
   have hr1 : (false : Bool) = (hitF (fun x => f x target) l) := by
    (have h9 := hit_eq (f := fun x => f x target) (hI.done (by omega)); rw [hkn] at h9; exact h9)
   refine q_end0 (v := .tuple #[Vi i, .bool false]) (rt2 rfl (r_tmp rfl) (r_tmp rfl)) (i := 1) rfl ?_
   exact (by have hcc := congr (congrArg (fun (y0 : Int) (y1 : Bool) => (.tuple #[.int .i64 y0, .bool y1] : Value)) hr0) hr1; exact hcc)
  ·have hkq : i < (l.length : Int) := by simpa using hkn
   refine c_held hmix [box B1 [Vi target.id, Vi target.due] 52, base w0] rfl rfl ?_
   refine h_t0 (i := 0) (ls := #[T1,F0,F0,F0,F0,F0,F0,F0,F0,F0,F0,F0,F0,F0,F0,F0]) rfl (p_move rfl) ?_
   refine h_t0 (i := 1) (ls := #[T1,T1,F0,F0,F0,F0,F0,F0,F0,F0,F0,F0,F0,F0,F0,F0]) rfl (p_move rfl) ?_
   refine h_t0 (i := 2) (ls := #[T1,T1,T1,F0,F0,F0,F0,F0,F0,F0,F0,F0,F0,F0,F0,F0]) rfl (p_move rfl) ?_
   refine h_t0 (i := 3) (ls := #[T1,T1,T1,T1,F0,F0,F0,F0,F0,F0,F0,F0,F0,F0,F0,F0]) rfl (p_known hkn (p_lt rfl rfl)) ?_
   refine h_t0 (i := 4) (ls := #[T1,T1,T1,T1,T1,F0,F0,F0,F0,F0,F0,F0,F0,F0,F0,F0]) rfl (p_move rfl) ?_
   refine h_takeG (i := 5) (ls := #[T1,T1,T1,T1,T1,T1,F0,F0,F0,F0,F0,F0,F0,F0,F0,F0]) rfl (by kernel_rfl) (by kernel_rfl) (by kernel_rfl) (fun _ _ _ h => h) (p_move rfl) rfl 39 rfl rfl rfl rfl (dp (lr)) rfl ?_
   refine h_takeG (i := 6) (ls := #[T1,T1,T1,T1,T1,T1,T1,F0,F0,F0,F0,F0,F0,F0,F0,F0]) rfl (by kernel_rfl) (by kernel_rfl) (by kernel_rfl) (fun _ _ _ h => h) (p_move rfl) rfl 39 rfl rfl rfl rfl (dp (lr)) rfl ?_
   refine h_takeG (i := 7) (ls := #[T1,T1,T1,T1,T1,T1,T1,T1,F0,F0,F0,F0,F0,F0,F0,F0]) rfl (by kernel_rfl) (by kernel_rfl) (by kernel_rfl) (fun _ _ _ h => h) (p_move rfl) rfl 39 rfl rfl rfl rfl (dp (lr)) rfl ?_
   refine h_takeG (i := 8) (ls := #[T1,T1,T1,T1,T1,T1,T1,T1,T1,F0,F0,F0,F0,F0,F0,F0]) rfl (by kernel_rfl) (by kernel_rfl) (by kernel_rfl) (fun _ _ _ h => h) (p_indexAddr (L := l) (T := tTimer) (i := i) rfl rfl (rd_base (i := 1) rfl hl) Try.underlying57 sz52 (by omega) (by omega)) rfl 39 rfl rfl rfl rfl (dp (lr)) rfl ?_
   refine h_takeG (i := 9) (ls := #[T1,T1,T1,T1,T1,T1,T1,T1,T1,T1,F0,F0,F0,F0,F0,F0]) rfl (by kernel_rfl) (by kernel_rfl) (by kernel_rfl) (fun _ _ _ h => h) (p_loadEn (i := i.toNat) (T := tTimer) (L := l) (vs := [Vi ((l.getD i.toNat default).id), Vi ((l.getD i.toNat default).due)]) rfl (rd_base (i := 1) rfl hl) (by first | assumption | omega) sh52 (congrArg tTimer.enc (getd_at (by first | assumption | omega) default))) rfl 39 rfl rfl rfl rfl (dp (lr)) rfl ?_
   refine h_takeG (i := 10) (ls := #[T1,T1,T1,T1,T1,T1,T1,T1,T1,T1,T1,F0,F0,F0,F0,F0]) rfl (by kernel_rfl) (by kernel_rfl) (by kernel_rfl) (fun _ _ _ h => h) (p_load_agg (i := 0) (vs := [Vi target.id, Vi target.due]) rfl rfl sh52 rfl rfl) rfl 39 rfl rfl rfl rfl (dp (lr)) rfl ?_
   refine h_one (i := 11) (ls := #[T1,T1,T1,T1,T1,T1,T1,T1,T1,T1,T1,T1,F0,F0,F0,F0]) (by kernel_rfl) rfl rfl ?_
   refine o_unguard 39 rfl rfl ?_
   refine o_call0V (vs := [.agg #[Vi ((l.getD i.toNat default).id), Vi ((l.getD i.toNat default).due)], .agg #[Vi target.id, Vi target.due]]) (caps := kf) (v := Vi (f (l.getD i.toNat default) target)) rfl rfl (okf (l.getD i.toNat default) target) hpf (pre_base (i := 1) rfl stf hf) rfl ?_
   refine o_nil ?_
   refine h_next (dp (lr)) ?_
   refine h_takeG (i := 12) (ls := #[T1,T1,T1,T1,T1,T1,T1,T1,T1,T1,T1,T1,T1,F0,F0,F0]) rfl (by kernel_rfl) (by kernel_rfl) (by kernel_rfl) (fun _ _ _ h => h) (p_eq rfl rfl) rfl 39 rfl rfl rfl rfl (dp (lr)) rfl ?_
   refine h_t0 (i := 13) (ls := #[T1,T1,T1,T1,T1,T1,T1,T1,T1,T1,T1,T1,T1,T1,F0,F0]) rfl (p_pick_true (u := .bool ((f (l.getD i.toNat default) target) == 0)) rfl rfl) ?_
   refine h_t0 (i := 14) (ls := #[T1,T1,T1,T1,T1,T1,T1,T1,T1,T1,T1,T1,T1,T1,T1,F0]) rfl (p_assign rfl) ?_
   refine h_t0 (i := 15) (ls := #[T1,T1,T1,T1,T1,T1,T1,T1,T1,T1,T1,T1,T1,T1,T1,T1]) rfl (p_assign rfl) ?_
   refine h_done (by kernel_rfl) ?_
   refine q_then (c_ret ?_)
   have hr0 : (i : Int) = (lowF (fun x => f x target) l : Int) := by
    exact hI.done (by omega)
   have hr1 : (((f (l.getD i.toNat default) target) == 0) : Bool) = (hitF (fun x => f x target) l) := by
    (have h9 := hit_eq (f := fun x => f x target) (hI.done (by omega)); rw [hkn] at h9; exact h9)
   refine q_end0 (v := .tuple #[Vi i, .bool ((f (l.getD i.toNat default) target) == 0)]) (rt2 rfl (r_tmp rfl) (r_tmp rfl)) (i := 1) rfl ?_
   exact (by have hcc := congr (congrArg (fun (y0 : Int) (y1 : Bool) => (.tuple #[.int .i64 y0, .bool y1] : Value)) hr0) hr1; exact hcc)

set_option maxHeartbeats 8000000 in
set_option maxRecDepth 100000 in
theorem insert_Timer_ok (l : List DTimer) (al : Option Addr) (cl : Nat) (Sl : Nat → Prop) (i : Int) (v : List DTimer) (av : Option Addr) (cv : Nat) (Sv : Nat → Prop) (hy1 : 0 ≤ i ∧ i ≤ (l.length : Int) ∧ l.length ≤ 1000000 ∧ v.length = 1) : FnX Try.prog 109 [.slice al l.length cl, Vi i, .slice av v.length cv] [own tTimer Sl al cl l, own tTimer Sv av cv v] (fun _ => True) (Option Addr × Nat × (Nat → Prop)) (fun p => .slice p.1 (l.take i.toNat ++ v ++ l.drop i.toNat).length p.2.1) (fun p => [own tTimer p.2.2 p.1 p.2.1 (l.take i.toNat ++ v ++ l.drop i.toNat)]) := by
 refine fnX (nt := 95) (F0 := [(0, .slice al l.length cl), (1, Vi i), (2, .slice av v.length cv)]) Try.func109 rfl Try.ntmps109 rfl rfl (fun w0 hpre => ?_)
 refine c_know (fun w hw => own_len (i := 1) (T := tTimer) hw rfl) (fun hlown_l => ?_)
 obtain ⟨hcown_l, hlown_l⟩ := hlown_l
 refine c_know (fun w hw => own_len (i := 2) (T := tTimer) hw rfl) (fun hlown_v => ?_)
 obtain ⟨hcown_v, hlown_v⟩ := hlown_v
 refine c_seq (c_region ?_)
 refine o_as rfl rfl ?_
 refine o_nil (q_then (c_seq (c_region ?_)))
 refine o_mv rfl rfl ?_
 refine o_mv rfl rfl ?_
 refine o_p (p_sliceL (L := l) (T := tTimer) (l := i) rfl rfl Try.underlying57 sz52 (by first | omega | (simp only [List.length_append, List.length_take, List.length_replicate, List.length_drop, List.length_set]; omega)) (by first | omega | (simp only [List.length_append, List.length_take, List.length_replicate, List.length_drop, List.length_set]; omega)) (rd_own (i := 1) rfl)) ?_
 refine o_nil (q_then (c_seq (c_region ?_)))
 refine o_mv rfl rfl ?_
 refine o_p (p_len_slice rfl rfl Try.underlying57) ?_
 refine o_as rfl rfl ?_
 refine o_nil (q_then (c_seq (c_seq (c_region ?_))))
 refine o_mv rfl rfl ?_
 refine o_p (p_eq rfl rfl) ?_
 refine o_nil (q_then ?_)
 refine c_cond rfl (fun hc1 => ?_) (fun hc1 => ?_)
 ·simp only [beq_iff_eq] at hc1
  exfalso; omega
 ·simp only [beq_eq_false_iff_ne, ne_eq] at hc1
  refine c_skip (q_then (c_seq (c_region ?_)))
  refine o_mv rfl rfl ?_
  refine o_p (p_len_slice rfl rfl Try.underlying57) ?_
  refine o_as rfl rfl ?_
  refine o_nil (q_then (c_seq (c_seq (c_region ?_))))
  refine o_mv rfl rfl ?_
  refine o_mv rfl rfl ?_
  refine o_p (p_eq rfl rfl) ?_
  refine o_nil (q_then ?_)
  refine c_cond rfl (fun hc2 => ?_) (fun hc2 => ?_)
  ·simp only [beq_iff_eq] at hc2
   refine c_seq (c_region ?_)
   refine o_mv rfl rfl ?_
   refine o_mv rfl rfl ?_
   refine o_append (i := 1) (L := l) (M := v) (T := tTimer) rfl rfl rfl (rd_own (i := 2) rfl) Try.underlying57 Try.underlying57 (by intro k h; cases h) el52 (by intro z; simp [tTimer, one1]) (by decide) (by first | omega | (simp only [List.length_cons, List.length_nil]; omega) | (simp only [List.length_append, List.length_cons, List.length_nil, List.length_take, List.length_drop]; omega)) rfl (fun a3 c4 S5 => ?_)
   refine o_as rfl rfl ?_
   refine o_nil (q_then (c_ret ?_))
   refine q_then_ret ?_
   have hr0 : ((l ++ v) : List DTimer) = (l.take i.toNat ++ v ++ l.drop i.toNat) := by
    first | rfl | (obtain rfl : i = (l.length : Int) := (by assumption); simp)
   refine q_endX (p := (a3, c4, S5)) (rt1 rfl (r_tmp rfl)) ?_ (fun w hw => ?_)
   ·exact (by have hcc := congrArg (fun (y0 : List DTimer) => (.slice a3 y0.length c4 : Value)) hr0; exact hcc)
   ·have h2 := hw.pick (H' := [outer w0 [own tTimer Sl al cl l, own tTimer Sv av cv v], own tTimer S5 a3 c4 (l ++ v)]) [0, 1] (by decide) rfl
    exact Eq.mp (congrArg (fun z => HeapIs w0 ((outer w0 [own tTimer Sl al cl l, own tTimer Sv av cv v]) :: z) w) ((by have hcc := congrArg (fun (y0 : List DTimer) => ([own tTimer S5 a3 c4 y0] : List Ent)) hr0; exact hcc))) h2
  ·simp only [beq_eq_false_iff_ne, ne_eq] at hc2
   refine c_skip (q_then (c_seq (c_seq (c_region ?_))))
   refine o_mv rfl rfl ?_
   refine o_mv rfl rfl ?_
   refine o_p (p_addb rfl rfl (by omega)) ?_
   refine o_mv rfl rfl ?_
   refine o_p (p_cap_slice rfl rfl Try.underlying57) ?_
   refine o_p (p_gt rfl rfl) ?_
   refine o_nil (q_then ?_)
   refine c_cond rfl (fun hc6 => ?_) (fun hc6 => ?_)
   ·simp only [decide_eq_true_eq] at hc6
    refine c_seq (c_region ?_)
    refine o_mv rfl rfl ?_
    refine o_mv rfl rfl ?_
    refine o_p (p_sliceH (L := l) (T := tTimer) (h := i) rfl rfl Try.underlying57 sz52 (by first | omega | (simp only [List.length_append, List.length_take, List.length_replicate, List.length_drop, List.length_set]; omega)) (by first | omega | (simp only [List.length_append, List.length_take, List.length_replicate, List.length_drop, List.length_set]; omega)) (rd_own (i := 1) rfl)) ?_
    refine o_mv rfl rfl ?_
    refine o_mv rfl rfl ?_
    refine o_p (p_addb rfl rfl (by omega)) ?_
    refine o_mv rfl rfl ?_
    refine o_p (p_subb rfl rfl (by omega)) ?_
    refine o_appendZ (i := 1) (m := i.toNat) (k := (l.length + v.length - i.toNat)) (L := l) (T := tTimer) (z := (⟨0, 0⟩ : DTimer)) rfl rfl rfl (by omega) Try.underlying57 Try.underlying3 el52 ze52 rfl (by decide) (by omega) rfl (fun a7 c8 S9 => ?_)
    refine o_know (fun w hw => own_len (i := 0) (T := tTimer) hw rfl) (fun hlz11 => ?_)
    have hlz11b : ((l.take i.toNat) ++ (List.replicate (l.length + v.length - i.toNat) (⟨0, 0⟩ : DTimer))).length = l.length + v.length := by simp only [List.length_append, List.length_take, List.length_replicate, List.length_drop, List.length_set]; omega
    refine o_as rfl rfl ?_
    refine o_nil (q_then (c_seq (c_region ?_)))
    refine o_mv rfl rfl ?_
    refine o_mv rfl rfl ?_
    refine o_p (p_sliceL (L := ((l.take i.toNat) ++ (List.replicate (l.length + v.length - i.toNat) (⟨0, 0⟩ : DTimer)))) (T := tTimer) (l := i) rfl rfl Try.underlying57 sz52 (by first | omega | (simp only [List.length_append, List.length_take, List.length_replicate, List.length_drop, List.length_set]; omega)) (by first | omega | (simp only [List.length_append, List.length_take, List.length_replicate, List.length_drop, List.length_set]; omega)) (rd_own (i := 0) rfl)) ?_
    refine o_mv rfl rfl ?_
    refine o_copy (i := 0) (lo := i.toNat) (M := v) (T := tTimer) (L := ((l.take i.toNat) ++ (List.replicate (l.length + v.length - i.toNat) (⟨0, 0⟩ : DTimer)))) (m := 1) (F' := [(0, .slice al l.length cl), (1, Vi i), (7, Vi (v.length : Int)), (9, .slice a7 (l.take i.toNat ++ v ++ List.replicate (l.length - i.toNat) (⟨0, 0⟩ : DTimer)).length c8)]) rfl rfl rfl (rd_own (i := 3) rfl) (by (try simp only [List.length_append, List.length_take, List.length_replicate, List.length_drop, List.length_set]); omega) Try.underlying57 sz52 (by intro z; simp [tTimer, one1]) (by (try simp only [List.length_append, List.length_take, List.length_replicate, List.length_drop, List.length_set]); omega) rfl (by omega) (sr (sr (sr (Sub.cons (by show some _ = some _; congr 2; first | (simp; omega) | simp) (Sub.nil _))))) ?_
    refine o_asH (H := [own tTimer S9 a7 c8 (((l.take i.toNat) ++ (List.replicate (l.length + v.length - i.toNat) (⟨0, 0⟩ : DTimer))).take i.toNat ++ v ++ ((l.take i.toNat) ++ (List.replicate (l.length + v.length - i.toNat) (⟨0, 0⟩ : DTimer))).drop (i.toNat + v.length)), outer w0 [own tTimer Sl al cl l, own tTimer Sv av cv v], own tTimer Sl al cl l, own tTimer Sv av cv v]) (H' := [own tTimer S9 a7 c8 (l.take i.toNat ++ v ++ List.replicate (l.length - i.toNat) (⟨0, 0⟩ : DTimer)), outer w0 [own tTimer Sl al cl l, own tTimer Sv av cv v], own tTimer Sl al cl l, own tTimer Sv av cv v]) (by have hins : ((((l.take i.toNat) ++ (List.replicate (l.length + v.length - i.toNat) (⟨0, 0⟩ : DTimer))).take i.toNat ++ v ++ ((l.take i.toNat) ++ (List.replicate (l.length + v.length - i.toNat) (⟨0, 0⟩ : DTimer))).drop (i.toNat + v.length)) : List DTimer) = (l.take i.toNat ++ v ++ List.replicate (l.length - i.toNat) (⟨0, 0⟩ : DTimer)) := (by exact ins_a (by omega) (by omega)); rw [hins]) ?_
    refine o_nil (q_then (c_seq ?_))
    refine c_held hmix [ownE tTimer S9 a7 c8 ((l.take i.toNat ++ v ++ List.replicate (l.length - i.toNat) (⟨0, 0⟩ : DTimer)).length), outer w0 [own tTimer Sl al cl l, own tTimer Sv av cv v], own tTimer Sl al cl l, own tTimer Sv av cv v] rfl rfl ?_
    refine h_tk (i := 0) (ls := #[T1,F0,F0,F0,F0,F0,F0,F0,F0]) rfl (p_move rfl) (fun _ hw => HeapIs.drop (HeapIs.toE (i := 0) (m := (l.take i.toNat ++ v ++ List.replicate (l.length - i.toNat) (⟨0, 0⟩ : DTimer)).length) (T := tTimer) rfl (by first | rfl | (simp; done) | (simp; omega)) hw) (lr)) ?_
    refine h_tk (i := 1) (ls := #[T1,T1,F0,F0,F0,F0,F0,F0,F0]) rfl (p_move rfl) (fun _ hw => HeapIs.drop (HeapIs.toE (i := 0) (m := (l.take i.toNat ++ v ++ List.replicate (l.length - i.toNat) (⟨0, 0⟩ : DTimer)).length) (T := tTimer) rfl (by first | rfl | (simp; done) | (simp; omega)) hw) (lr)) ?_
    refine h_tk (i := 2) (ls := #[T1,T1,T1,F0,F0,F0,F0,F0,F0]) rfl (p_move rfl) (fun _ hw => HeapIs.drop (HeapIs.toE (i := 0) (m := (l.take i.toNat ++ v ++ List.replicate (l.length - i.toNat) (⟨0, 0⟩ : DTimer)).length) (T := tTimer) rfl (by first | rfl | (simp; done) | (simp; omega)) hw) (lr)) ?_
    refine h_tk (i := 3) (ls := #[T1,T1,T1,T1,F0,F0,F0,F0,F0]) rfl (p_addb rfl rfl (by omega)) (fun _ hw => HeapIs.drop (HeapIs.toE (i := 0) (m := (l.take i.toNat ++ v ++ List.replicate (l.length - i.toNat) (⟨0, 0⟩ : DTimer)).length) (T := tTimer) rfl (by first | rfl | (simp; done) | (simp; omega)) hw) (lr)) ?_
    refine h_tk (i := 4) (ls := #[T1,T1,T1,T1,T1,F0,F0,F0,F0]) rfl (p_sliceLE (j := 0) (m := (l.take i.toNat ++ v ++ List.replicate (l.length - i.toNat) (⟨0, 0⟩ : DTimer)).length) (T := tTimer) (l := (i + (v.length : Int))) rfl rfl rfl Try.underlying57 sz52 (by omega) (by first | omega | (simp; omega))) (fun _ hw => HeapIs.drop (HeapIs.toE (i := 0) (m := (l.take i.toNat ++ v ++ List.replicate (l.length - i.toNat) (⟨0, 0⟩ : DTimer)).length) (T := tTimer) rfl (by first | rfl | (simp; done) | (simp; omega)) hw) (lr)) ?_
    refine h_tk (i := 5) (ls := #[T1,T1,T1,T1,T1,T1,F0,F0,F0]) rfl (p_move rfl) (fun _ hw => HeapIs.drop (HeapIs.toE (i := 0) (m := (l.take i.toNat ++ v ++ List.replicate (l.length - i.toNat) (⟨0, 0⟩ : DTimer)).length) (T := tTimer) rfl (by first | rfl | (simp; done) | (simp; omega)) hw) (lr)) ?_
    refine h_tk (i := 6) (ls := #[T1,T1,T1,T1,T1,T1,T1,F0,F0]) rfl (p_move rfl) (fun _ hw => HeapIs.drop (HeapIs.toE (i := 0) (m := (l.take i.toNat ++ v ++ List.replicate (l.length - i.toNat) (⟨0, 0⟩ : DTimer)).length) (T := tTimer) rfl (by first | rfl | (simp; done) | (simp; omega)) hw) (lr)) ?_
    refine h_tk (i := 7) (ls := #[T1,T1,T1,T1,T1,T1,T1,T1,F0]) rfl (p_sliceL (L := l) (T := tTimer) (l := i) rfl rfl Try.underlying57 sz52 (by first | omega | (simp only [List.length_append, List.length_take, List.length_replicate, List.length_drop, List.length_set]; omega)) (by first | omega | (simp only [List.length_append, List.length_take, List.length_replicate, List.length_drop, List.length_set]; omega)) (rd_own (i := 2) rfl)) (fun _ hw => HeapIs.drop (HeapIs.toE (i := 0) (m := (l.take i.toNat ++ v ++ List.replicate (l.length - i.toNat) (⟨0, 0⟩ : DTimer)).length) (T := tTimer) rfl (by first | rfl | (simp; done) | (simp; omega)) hw) (lr)) ?_
    refine h_one (i := 8) (ls := #[T1,T1,T1,T1,T1,T1,T1,T1,T1]) (by kernel_rfl) rfl rfl ?_
    refine o_copy (i := 0) (lo := (i + (v.length : Int)).toNat) (M := (l.drop i.toNat)) (T := tTimer) (L := (l.take i.toNat ++ v ++ List.replicate (l.length - i.toNat) (⟨0, 0⟩ : DTimer))) (m := (l.length - i.toNat)) (F' := [(0, .slice al l.length cl), (1, Vi i), (7, Vi (v.length : Int)), (9, .slice a7 (l.take i.toNat ++ v ++ l.drop i.toNat).length c8)]) rfl rfl rfl (rd_dropC (l := i.toNat) (rd_own (i := 2) rfl) (by first | omega | (simp only [List.length_append, List.length_take, List.length_replicate, List.length_drop, List.length_set]; omega))) (by (try simp only [List.length_append, List.length_take, List.length_replicate, List.length_drop, List.length_set]); omega) Try.underlying57 sz52 (by intro z; simp [tTimer, one1]) (by (try simp only [List.length_append, List.length_take, List.length_replicate, List.length_drop, List.length_set]); omega) rfl (by simp) (sr (sr (sr (Sub.cons (by show some _ = some _; congr 2; first | (simp; omega) | simp) (Sub.nil _))))) ?_
    refine o_asH (H := [own tTimer S9 a7 c8 ((l.take i.toNat ++ v ++ List.replicate (l.length - i.toNat) (⟨0, 0⟩ : DTimer)).take ((i + (v.length : Int)).toNat) ++ (l.drop i.toNat) ++ (l.take i.toNat ++ v ++ List.replicate (l.length - i.toNat) (⟨0, 0⟩ : DTimer)).drop (((i + (v.length : Int)).toNat) + (l.drop i.toNat).length)), outer w0 [own tTimer Sl al cl l, own tTimer Sv av cv v], own tTimer Sl al cl l, own tTimer Sv av cv v]) (H' := [own tTimer S9 a7 c8 (l.take i.toNat ++ v ++ l.drop i.toNat), outer w0 [own tTimer Sl al cl l, own tTimer Sv av cv v], own tTimer Sl al cl l, own tTimer Sv av cv v]) (by have hins : (((l.take i.toNat ++ v ++ List.replicate (l.length - i.toNat) (⟨0, 0⟩ : DTimer)).take ((i + (v.length : Int)).toNat) ++ (l.drop i.toNat) ++ (l.take i.toNat ++ v ++ List.replicate (l.length - i.toNat) (⟨0, 0⟩ : DTimer)).drop (((i + (v.length : Int)).toNat) + (l.drop i.toNat).length)) : List DTimer) = (l.take i.toNat ++ v ++ l.drop i.toNat) := (by exact ins_b (by omega) (by omega) (by omega)); rw [hins]) ?_
    refine o_nil ?_
    refine h_next (fun _ hw => HeapIs.drop (HeapIs.toE (i := 0) (m := (l.take i.toNat ++ v ++ List.replicate (l.length - i.toNat) (⟨0, 0⟩ : DTimer)).length) (T := tTimer) rfl (by first | rfl | (simp; done) | (simp; omega)) hw) (lr)) ?_
    refine h_done (by kernel_rfl) ?_
    refine q_cast (F' := [(9, .slice a7 (l.take i.toNat ++ v ++ l.drop i.toNat).length c8)]) (H := [own tTimer S9 a7 c8 (l.take i.toNat ++ v ++ l.drop i.toNat), outer w0 [own tTimer Sl al cl l, own tTimer Sv av cv v], own tTimer Sl al cl l, own tTimer Sv av cv v]) (H' := [own tTimer S9 a7 c8 (l.take i.toNat ++ v ++ l.drop i.toNat), outer w0 [own tTimer Sl al cl l, own tTimer Sv av cv v], own tTimer Sl al cl l, own tTimer Sv av cv v]) (sr (Sub.nil _)) (by rfl) ?_
    refine q_then (c_seq (c_region ?_))
    refine o_mv rfl rfl ?_
    refine o_as rfl rfl ?_
    refine o_nil (q_then (c_ret ?_))
    refine q_then_ret ?_
    refine q_endX (p := (a7, c8, S9)) (rt1 rfl (r_tmp rfl)) ?_ (fun w hw => ?_)
    ·exact rfl
    ·have h2 := hw.pick (H' := [outer w0 [own tTimer Sl al cl l, own tTimer Sv av cv v], own tTimer S9 a7 c8 (l.take i.toNat ++ v ++ l.drop i.toNat)]) [1, 0] (by decide) rfl
     exact Eq.mp (congrArg (fun z => HeapIs w0 ((outer w0 [own tTimer Sl al cl l, own tTimer Sv av cv v]) :: z) w) (rfl)) h2
   ·simp only [decide_eq_false_iff_not, Int.not_lt] at hc6
    refine c_skip (q_then (c_seq (c_region ?_)))
    refine o_mv rfl rfl ?_
    refine o_mv rfl rfl ?_
    refine o_mv rfl rfl ?_
    refine o_p (p_addb rfl rfl (by omega)) ?_
    refine o_p (p_slice0 (hi := (l.length + v.length)) (hv := ((l.length : Int) + (v.length : Int))) rfl rfl Try.underlying57 sz52 (by omega) (by omega)) ?_
    refine o_as rfl rfl ?_
    refine o_nil (q_then (c_seq (c_seq (c_region ?_))))
    refine o_mv rfl rfl ?_
    refine o_mv rfl rfl ?_
    refine o_mv rfl rfl ?_
    refine o_mv rfl rfl ?_
    refine o_p (p_addb rfl rfl (by omega)) ?_
    refine o_p (p_slice (l := (i.toNat + 1)) (hi := (l.length + v.length)) (m := cl) (lv := some (Vi (i + (v.length : Int)))) (hv := none) (mv := none) rfl rfl rfl rfl Try.underlying57 sz52 (.inr ⟨.i64, by congr 1; congr 1; omega⟩) (.inl ⟨rfl, rfl⟩) (.inl ⟨rfl, rfl⟩) (fun _ => rfl) (by omega) (by omega) (Nat.le_refl _) rfl) ?_
    refine o_p (p_overlaps (tS := 57) (tR := 4) (i := 1) (j := 2) (lo := (i.toNat + 1)) (M := v) Try.func140 (by kernel_rfl) (by kernel_rfl) (by kernel_rfl) (by kernel_rfl) rfl rfl rfl rfl (by decide) Try.underlying57 sz52 (by omega) (by omega) (by decide)) ?_
    refine o_p (p_not (b := false) rfl) ?_
    refine o_nil (q_then ?_)
    refine c_true rfl ?_
    refine c_seq ?_
    refine c_held hmix [outer w0 [own tTimer Sl al cl l, own tTimer Sv av cv v], own tTimer Sv av cv v] rfl rfl ?_
    refine h_tk (i := 0) (ls := #[T1,F0,F0,F0,F0,F0,F0,F0,F0]) rfl (p_move rfl) (dp (lj (lz (lj (ln))))) ?_
    refine h_tk (i := 1) (ls := #[T1,T1,F0,F0,F0,F0,F0,F0,F0]) rfl (p_move rfl) (dp (lj (lz (lj (ln))))) ?_
    refine h_tk (i := 2) (ls := #[T1,T1,T1,F0,F0,F0,F0,F0,F0]) rfl (p_move rfl) (dp (lj (lz (lj (ln))))) ?_
    refine h_tk (i := 3) (ls := #[T1,T1,T1,T1,F0,F0,F0,F0,F0]) rfl (p_addb rfl rfl (by omega)) (dp (lj (lz (lj (ln))))) ?_
    refine h_tk (i := 4) (ls := #[T1,T1,T1,T1,T1,F0,F0,F0,F0]) rfl (p_slice (l := (i.toNat + 1)) (hi := (l.length + v.length)) (m := cl) (lv := some (Vi (i + (v.length : Int)))) (hv := none) (mv := none) rfl rfl rfl rfl Try.underlying57 sz52 (.inr ⟨.i64, by congr 1; congr 1; omega⟩) (.inl ⟨rfl, rfl⟩) (.inl ⟨rfl, rfl⟩) (fun _ => rfl) (by omega) (by omega) (Nat.le_refl _) rfl) (dp (lj (lz (lj (ln))))) ?_
    refine h_tk (i := 5) (ls := #[T1,T1,T1,T1,T1,T1,F0,F0,F0]) rfl (p_move rfl) (dp (lj (lz (lj (ln))))) ?_
    refine h_tk (i := 6) (ls := #[T1,T1,T1,T1,T1,T1,T1,F0,F0]) rfl (p_move rfl) (dp (lj (lz (lj (ln))))) ?_
    refine h_tk (i := 7) (ls := #[T1,T1,T1,T1,T1,T1,T1,T1,F0]) rfl (p_slice (l := i.toNat) (hi := (l.length + v.length)) (m := cl) (lv := some (Vi i)) (hv := none) (mv := none) rfl rfl rfl rfl Try.underlying57 sz52 (.inr ⟨.i64, by congr 1; congr 1; omega⟩) (.inl ⟨rfl, rfl⟩) (.inl ⟨rfl, rfl⟩) (fun _ => rfl) (by omega) (by omega) (Nat.le_refl _) rfl) (dp (lj (lz (lj (ln))))) ?_
    refine h_one (i := 8) (ls := #[T1,T1,T1,T1,T1,T1,T1,T1,T1]) (by kernel_rfl) rfl rfl ?_
    refine o_copy (i := 1) (lo := (i.toNat + 1)) (M := (l.drop i.toNat)) (T := tTimer) (L := l) (m := (l.length - i.toNat)) (F' := [(0, .slice al (l.take (i.toNat + 1) ++ l.drop i.toNat).length cl), (1, Vi i), (2, .slice av v.length cv), (7, Vi (v.length : Int)), (8, Vi (l.length : Int)), (68, .bool true)]) rfl rfl rfl (rd_dropC (l := i.toNat) (rd_own (i := 1) rfl) (by omega)) (by (try simp only [List.length_append, List.length_take, List.length_replicate, List.length_drop, List.length_set]); omega) Try.underlying57 sz52 (by intro z; simp [tTimer, one1]) (by (try simp only [List.length_append, List.length_take, List.length_replicate, List.length_drop, List.length_set]); omega) rfl (by simp) (Sub.cons (by show some _ = some _; congr 2; first | (simp; omega) | simp) (sr (sr (sr (sr (sr (Sub.nil _))))))) ?_
    refine o_asH (H := [outer w0 [own tTimer Sl al cl l, own tTimer Sv av cv v], own tTimer Sl al cl (l.take (i.toNat + 1) ++ (l.drop i.toNat) ++ l.drop ((i.toNat + 1) + (l.drop i.toNat).length)), own tTimer Sv av cv v]) (H' := [outer w0 [own tTimer Sl al cl l, own tTimer Sv av cv v], own tTimer Sl al cl (l.take (i.toNat + 1) ++ l.drop i.toNat), own tTimer Sv av cv v]) (by have hins : ((l.take (i.toNat + 1) ++ (l.drop i.toNat) ++ l.drop ((i.toNat + 1) + (l.drop i.toNat).length)) : List DTimer) = (l.take (i.toNat + 1) ++ l.drop i.toNat) := (by exact ins_c (by omega) (by omega)); rw [hins]) ?_
    refine o_nil ?_
    refine h_next (dp (lj (lz (lj (ln))))) ?_
    refine h_done (by kernel_rfl) ?_
    refine q_cast (F' := [(0, .slice al (l.take (i.toNat + 1) ++ l.drop i.toNat).length cl), (1, Vi i), (2, .slice av v.length cv)]) (H := [outer w0 [own tTimer Sl al cl l, own tTimer Sv av cv v], own tTimer Sl al cl (l.take (i.toNat + 1) ++ l.drop i.toNat), own tTimer Sv av cv v]) (H' := [outer w0 [own tTimer Sl al cl l, own tTimer Sv av cv v], own tTimer Sl al cl (l.take (i.toNat + 1) ++ l.drop i.toNat), own tTimer Sv av cv v]) (sr (sr (sr (Sub.nil _)))) (by rfl) ?_
    refine q_then (c_seq (c_region ?_))
    refine o_mv rfl rfl ?_
    refine o_mv rfl rfl ?_
    refine o_p (p_sliceL (L := (l.take (i.toNat + 1) ++ l.drop i.toNat)) (T := tTimer) (l := i) rfl rfl Try.underlying57 sz52 (by first | omega | (simp only [List.length_append, List.length_take, List.length_replicate, List.length_drop, List.length_set]; omega)) (by first | omega | (simp only [List.length_append, List.length_take, List.length_replicate, List.length_drop, List.length_set]; omega)) (rd_own (i := 1) rfl)) ?_
    refine o_mv rfl rfl ?_
    refine o_copy (i := 1) (lo := i.toNat) (M := v) (T := tTimer) (L := (l.take (i.toNat + 1) ++ l.drop i.toNat)) (m := 1) (F' := [(0, .slice al (l.take i.toNat ++ v ++ l.drop i.toNat).length cl)]) rfl rfl rfl (rd_own (i := 2) rfl) (by (try simp only [List.length_append, List.length_take, List.length_replicate, List.length_drop, List.length_set]); omega) Try.underlying57 sz52 (by intro z; simp [tTimer, one1]) (by (try simp only [List.length_append, List.length_take, List.length_replicate, List.length_drop, List.length_set]); omega) rfl (by omega) (Sub.cons (by show some _ = some _; congr 2; first | (simp; omega) | simp) (Sub.nil _)) ?_
    refine o_asH (H := [outer w0 [own tTimer Sl al cl l, own tTimer Sv av cv v], own tTimer Sl al cl ((l.take (i.toNat + 1) ++ l.drop i.toNat).take i.toNat ++ v ++ (l.take (i.toNat + 1) ++ l.drop i.toNat).drop (i.toNat + v.length)), own tTimer Sv av cv v]) (H' := [outer w0 [own tTimer Sl al cl l, own tTimer Sv av cv v], own tTimer Sl al cl (l.take i.toNat ++ v ++ l.drop i.toNat), own tTimer Sv av cv v]) (by have hins : (((l.take (i.toNat + 1) ++ l.drop i.toNat).take i.toNat ++ v ++ (l.take (i.toNat + 1) ++ l.drop i.toNat).drop (i.toNat + v.length)) : List DTimer) = (l.take i.toNat ++ v ++ l.drop i.toNat) := (by exact ins_d (by omega) (by omega)); rw [hins]) ?_
    refine o_nil (q_then (c_seq (c_region ?_)))
    refine o_mv rfl rfl ?_
    refine o_as rfl rfl ?_
    refine o_nil (q_then (c_ret ?_))
    refine q_then_ret ?_
    refine q_endX (p := (al, cl, Sl)) (rt1 rfl (r_tmp rfl)) ?_ (fun w hw => ?_)
    ·exact rfl
    ·have h2 := hw.pick (H' := [outer w0 [own tTimer Sl al cl l, own tTimer Sv av cv v], own tTimer Sl al cl (l.take i.toNat ++ v ++ l.drop i.toNat)]) [0, 1] (by decide) rfl
     exact Eq.mp (congrArg (fun z => HeapIs w0 ((outer w0 [own tTimer Sl al cl l, own tTimer Sv av cv v]) :: z) w) (rfl)) h2

set_option maxHeartbeats 8000000 in
set_option maxRecDepth 100000 in
theorem delete_Timer_ok (l : List DTimer) (al : Option Addr) (cl : Nat) (Sl : Nat → Prop) (i : Int) (j : Int) (hy1 : 0 ≤ i ∧ i ≤ j ∧ j ≤ (l.length : Int)) : FnX Try.prog 71 [.slice al l.length cl, Vi i, Vi j] [own tTimer Sl al cl l] (fun _ => True) (Option Addr × Nat × (Nat → Prop)) (fun p => .slice p.1 (l.take i.toNat ++ l.drop j.toNat).length p.2.1) (fun p => [own tTimer p.2.2 p.1 p.2.1 (l.take i.toNat ++ l.drop j.toNat)]) := by
 refine fnX (nt := 33) (F0 := [(0, .slice al l.length cl), (1, Vi i), (2, Vi j)]) Try.func71 rfl Try.ntmps71 rfl rfl (fun w0 hpre => ?_)
 refine c_know (fun w hw => own_len (i := 1) (T := tTimer) hw rfl) (fun hlown_l => ?_)
 obtain ⟨hcown_l, hlown_l⟩ := hlown_l
 refine c_seq (c_region ?_)
 refine o_as rfl rfl ?_
 refine o_nil (q_then (c_seq (c_region ?_)))
 refine o_mv rfl rfl ?_
 refine o_mv rfl rfl ?_
 refine o_mv rfl rfl ?_
 refine o_mv rfl rfl ?_
 refine o_p (p_len_slice rfl rfl Try.underlying57) ?_
 refine o_p (p_sliceLHM (L := l) (T := tTimer) (l := i) (h := j) (m := (l.length : Int)) rfl rfl rfl rfl Try.underlying57 sz52 (by omega) (by omega) (by omega) (by omega) (rd_own (i := 1) rfl)) ?_
 refine o_nil (q_then (c_seq (c_seq (c_region ?_))))
 refine o_mv rfl rfl ?_
 refine o_mv rfl rfl ?_
 refine o_p (p_eq rfl rfl) ?_
 refine o_nil (q_then ?_)
 refine c_cond rfl (fun hc1 => ?_) (fun hc1 => ?_)
 ·simp only [beq_iff_eq] at hc1
  refine c_seq (c_region ?_)
  refine o_mv rfl rfl ?_
  refine o_as rfl rfl ?_
  refine o_nil (q_then (c_ret ?_))
  refine q_then_ret ?_
  have hr0 : (l : List DTimer) = (l.take i.toNat ++ l.drop j.toNat) := by
   first | rfl | (have hij : i = j := (by assumption); subst hij; exact (List.take_append_drop _ _).symm)
  refine q_endX (p := (al, cl, Sl)) (rt1 rfl (r_tmp rfl)) ?_ (fun w hw => ?_)
  ·exact (by have hcc := congrArg (fun (y0 : List DTimer) => (.slice al y0.length cl : Value)) hr0; exact hcc)
  ·have h2 := hw.pick (H' := [outer w0 [own tTimer Sl al cl l], own tTimer Sl al cl l]) [0, 1] (by decide) rfl
   exact Eq.mp (congrArg (fun z => HeapIs w0 ((outer w0 [own tTimer Sl al cl l]) :: z) w) ((by have hcc := congrArg (fun (y0 : List DTimer) => ([own tTimer Sl al cl y0] : List Ent)) hr0; exact hcc))) h2
 ·simp only [beq_eq_false_iff_ne, ne_eq] at hc1
  refine c_skip (q_then (c_seq (c_region ?_)))
  refine o_mv rfl rfl ?_
  refine o_p (p_len_slice rfl rfl Try.underlying57) ?_
  refine o_as rfl rfl ?_
  refine o_nil (q_then (c_seq ?_))
  refine c_cut (G := Unit) (fun _ => [(0, .slice al ((l.take i.toNat) ++ (l.drop j.toNat)).length cl), (7, Vi (l.length : Int))]) (fun _ => [outer w0 [own tTimer Sl al cl l], own tTimer Sl al cl ((l.take i.toNat) ++ (l.drop j.toNat))]) (fun K hK3 => ?_) ?_
  ·refine c_held hmix [outer w0 [own tTimer Sl al cl l]] rfl rfl ?_
   refine h_tk (i := 0) (ls := #[T1,F0,F0,F0,F0,F0,F0,F0]) rfl (p_move rfl) (dp (lj (lz (ln)))) ?_
   refine h_tk (i := 1) (ls := #[T1,T1,F0,F0,F0,F0,F0,F0]) rfl (p_move rfl) (dp (lj (lz (ln)))) ?_
   refine h_tk (i := 3) (ls := #[T1,T1,F0,T1,F0,F0,F0,F0]) rfl (p_move rfl) (dp (lj (lz (ln)))) ?_
   refine h_tk (i := 4) (ls := #[T1,T1,F0,T1,T1,F0,F0,F0]) rfl (p_move rfl) (dp (lj (lz (ln)))) ?_
   refine h_two (i := 2) (j := 5) (ls := #[T1,T1,T1,T1,T1,F0,F0,F0]) (ls' := #[T1,T1,F0,T1,T1,T1,F0,F0]) (by kernel_rfl) rfl rfl rfl rfl ?_ ?_
   ·refine o_p (p_sliceH (L := l) (T := tTimer) (h := i) rfl rfl Try.underlying57 sz52 (by omega) (by omega) (rd_own (i := 1) rfl)) ?_
    refine o_nil ?_
    refine h_next (dp (lj (lz (ln)))) ?_
    refine h_one (i := 5) (ls := #[T1,T1,T1,T1,T1,T1,F0,F0]) (by kernel_rfl) rfl rfl ?_
    refine o_p (p_sliceL (L := l) (T := tTimer) (l := j) rfl rfl Try.underlying57 sz52 (by omega) (by omega) (rd_own (i := 1) rfl)) ?_
    refine o_nil ?_
    refine h_next (dp (lj (lz (ln)))) ?_
    refine h_one (i := 6) (ls := #[T1,T1,T1,T1,T1,T1,T1,F0]) (by kernel_rfl) rfl rfl ?_
    refine o_appendIn (i := 1) (m := i.toNat) (L := l) (M := (l.drop j.toNat)) (T := tTimer) rfl rfl rfl (by omega) (rd_dropC (l := j.toNat) (rd_own (i := 1) rfl) (by omega)) Try.underlying57 Try.underlying57 (by intro k h; cases h) el52 (by intro z; simp [tTimer, one1]) (by first | (simp only [List.length_drop]; omega) | (simp; omega)) rfl ?_
    refine o_nil ?_
    refine h_next (dp (lj (lz (ln)))) ?_
    refine h_tk (i := 7) (ls := #[T1,T1,T1,T1,T1,T1,T1,T1]) rfl (p_assign rfl) (dp (lj (lz (ln)))) ?_
    refine h_done (by kernel_rfl) ?_
    refine q_kont hK3 () (sr (sr (Sub.nil _))) (pk [0, 1])
   ·refine o_p (p_sliceL (L := l) (T := tTimer) (l := j) rfl rfl Try.underlying57 sz52 (by omega) (by omega) (rd_own (i := 1) rfl)) ?_
    refine o_nil ?_
    refine h_next (dp (lj (lz (ln)))) ?_
    refine h_one (i := 2) (ls := #[T1,T1,T1,T1,T1,T1,F0,F0]) (by kernel_rfl) rfl rfl ?_
    refine o_p (p_sliceH (L := l) (T := tTimer) (h := i) rfl rfl Try.underlying57 sz52 (by omega) (by omega) (rd_own (i := 1) rfl)) ?_
    refine o_nil ?_
    refine h_next (dp (lj (lz (ln)))) ?_
    refine h_one (i := 6) (ls := #[T1,T1,T1,T1,T1,T1,T1,F0]) (by kernel_rfl) rfl rfl ?_
    refine o_appendIn (i := 1) (m := i.toNat) (L := l) (M := (l.drop j.toNat)) (T := tTimer) rfl rfl rfl (by omega) (rd_dropC (l := j.toNat) (rd_own (i := 1) rfl) (by omega)) Try.underlying57 Try.underlying57 (by intro k h; cases h) el52 (by intro z; simp [tTimer, one1]) (by first | (simp only [List.length_drop]; omega) | (simp; omega)) rfl ?_
    refine o_nil ?_
    refine h_next (dp (lj (lz (ln)))) ?_
    refine h_tk (i := 7) (ls := #[T1,T1,T1,T1,T1,T1,T1,T1]) rfl (p_assign rfl) (dp (lj (lz (ln)))) ?_
    refine h_done (by kernel_rfl) ?_
    refine q_kont hK3 () (sr (sr (Sub.nil _))) (pk [0, 1])
  rintro _
  show SQ _ 33 w0 _ _ [(0, .slice al ((l.take i.toNat) ++ (l.drop j.toNat)).length cl), (7, Vi (l.length : Int))] [outer w0 [own tTimer Sl al cl l], own tTimer Sl al cl ((l.take i.toNat) ++ (l.drop j.toNat))]
  refine q_cast (F' := [(0, .slice al ((l.take i.toNat) ++ (l.drop j.toNat)).length cl), (7, Vi (l.length : Int))]) (H := [outer w0 [own tTimer Sl al cl l], own tTimer Sl al cl ((l.take i.toNat) ++ (l.drop j.toNat))]) (H' := [outer w0 [own tTimer Sl al cl l], own tTimer Sl al cl ((l.take i.toNat) ++ (l.drop j.toNat))]) (sr (sr (Sub.nil _))) (by rfl) ?_
  refine q_then (c_seq (c_region ?_))
  refine o_mv rfl rfl ?_
  refine o_mv rfl rfl ?_
  refine o_p (p_len_slice rfl rfl Try.underlying57) ?_
  refine o_mv rfl rfl ?_
  refine o_p (p_sliceTail (i := 1) (L := ((l.take i.toNat) ++ (l.drop j.toNat))) (T := tTimer) (h := (l.length : Int)) (m := (l.length - (l.take i.toNat ++ l.drop j.toNat).length)) rfl rfl rfl rfl Try.underlying57 sz52 (by simp only [List.length_append, List.length_take, List.length_drop]; omega)) ?_
  refine o_clearTail (i := 1) (T := tTimer) (m := (l.length - (l.take i.toNat ++ l.drop j.toNat).length)) rfl rfl rfl Try.underlying57 ze52 rfl rfl (by first | omega | (simp only [List.length_append, List.length_take, List.length_drop]; omega)) ?_
  refine o_nil (q_then (c_seq (c_region ?_)))
  refine o_mv rfl rfl ?_
  refine o_as rfl rfl ?_
  refine o_nil (q_then (c_ret ?_))
  have hr0 : (((l.take i.toNat) ++ (l.drop j.toNat)) : List DTimer) = (l.take i.toNat ++ l.drop j.toNat) := by
   first | rfl | (have hij : i = j := (by assumption); subst hij; exact (List.take_append_drop _ _).symm)
  refine q_endX (p := (al, cl, Sl)) (rt1 rfl (r_tmp rfl)) ?_ (fun w hw => ?_)
  ·exact (by have hcc := congrArg (fun (y0 : List DTimer) => (.slice al y0.length cl : Value)) hr0; exact hcc)
  ·have h2 := hw.pick (H' := [outer w0 [own tTimer Sl al cl l], own tTimer Sl al cl ((l.take i.toNat) ++ (l.drop j.toNat))]) [0, 1] (by decide) rfl
   exact Eq.mp (congrArg (fun z => HeapIs w0 ((outer w0 [own tTimer Sl al cl l]) :: z) w) ((by have hcc := congrArg (fun (y0 : List DTimer) => ([own tTimer Sl al cl y0] : List Ent)) hr0; exact hcc))) h2

set_option maxHeartbeats 8000000 in
set_option maxRecDepth 100000 in
theorem wput_ok (wh : DWheel) (awh_0 : Option Addr) (cwh_0 : NC) (Swh_0 : Nat → Prop) (t : DTimer) (hy1 : Wh.Fit wh t) : FnX Try.prog 70 [.agg #[Vi wh.now, .slice awh_0 wh.slots.length cwh_0.n], .agg #[Vi t.id, Vi t.due]] [ownN tTimer Swh_0 awh_0 cwh_0 wh.slots] (fun _ => True) ((Nat → Option Addr) × (Nat → Nat) × (Nat → Prop)) (fun p => .tuple #[]) (fun p => [ownN tTimer p.2.2 awh_0 (⟨cwh_0.n, p.1, p.2.1⟩ : NC) ((Wh.put wh t).slots)]) := by
 refine fnX (nt := 35) (F0 := [(0, .agg #[Vi wh.now, .slice awh_0 wh.slots.length cwh_0.n]), (1, .agg #[Vi t.id, Vi t.due])]) Try.func70 rfl Try.ntmps70 rfl rfl (fun w0 hpre => ?_)
 refine c_know (fun w hw => own_lenN (i := 1) (T := tTimer) hw rfl) (fun hlown_wh_0 => ?_)
 obtain ⟨hcown_wh_0, hlown_wh_0⟩ := hlown_wh_0
 obtain ⟨hf1, hf2, hf3, hf4⟩ := id hy1
 have hpb := Wh.place_bd t.due wh.now
 have hsp := hy1.split
 have hrl := hf4 (Wh.place t.due wh.now).toNat
 have hlw := lowF_le (fun x => Wh.order x t) (wh.slots.getD (Wh.place t.due wh.now).toNat [])
 refine c_seq (c_region ?_)
 refine o_box (v := .agg #[Vi wh.now, .slice awh_0 wh.slots.length cwh_0.n]) rfl rfl (fun B1 => ?_)
 refine o_box (v := .agg #[Vi t.id, Vi t.due]) rfl rfl (fun B2 => ?_)
 refine o_nil (q_then (c_seq (c_region ?_)))
 refine o_p (p_fieldAddr (j' := 1) rfl fo52_1 rfl) ?_
 refine o_p (p_load (i := 0) (v := Vi t.due) rfl rfl sh3 rfl) ?_
 refine o_p (p_fieldAddr (j' := 0) rfl fo50_0 rfl) ?_
 refine o_p (p_load (i := 1) (v := Vi wh.now) rfl rfl sh3 rfl) ?_
 refine o_call0 (v := Vi (Wh.place t.due wh.now)) rfl (wplace_ok t.due wh.now (by first | assumption | omega) (by first | assumption | omega)) hf77 (fun _ _ => trivial) rfl ?_
 refine o_as rfl rfl ?_
 refine o_nil (q_then (c_seq ?_))
 refine c_draw hmix (by kernel_rfl) ?_
 refine w_p (p_fieldAddr (j' := 1) rfl fo50_1 rfl) ?_
 refine w_p (p_load (i := 1) (v := .slice awh_0 wh.slots.length cwh_0.n) rfl rfl sh48 rfl) ?_
 refine w_mv rfl rfl ?_
 refine w_p (p_indexAddrN (T := tTimer) (c := cwh_0) (LL := wh.slots) (i := (Wh.place t.due wh.now)) rfl rfl (rd_ownN (i := 3) rfl) Try.underlying48 sz57 (by first | omega | decide) (by first | omega | decide)) ?_
 refine w_p (p_loadN (T := tTimer) (c := cwh_0) (LL := wh.slots) (i := (Wh.place t.due wh.now).toNat) rfl (rd_ownN (i := 3) rfl) (by first | assumption | omega | decide) sh57) ?_
 refine w_p (p_load_agg (i := 0) (vs := [Vi t.id, Vi t.due]) rfl rfl sh52 rfl rfl) ?_
 refine w_call0 (v := .tuple #[Vi (lowF (fun x => (fun (x : DTimer) (y : DTimer) => (Wh.order x y)) x t) (wh.slots.getD ((Wh.place t.due wh.now).toNat) []) : Int), .bool (hitF (fun x => (fun (x : DTimer) (y : DTimer) => (Wh.order x y)) x t) (wh.slots.getD ((Wh.place t.due wh.now).toNat) []))]) rfl (bsearch_ok (wh.slots.getD ((Wh.place t.due wh.now).toNat) []) (cwh_0.ra ((Wh.place t.due wh.now).toNat)) (cwh_0.rc ((Wh.place t.due wh.now).toNat)) t 74 [] (fun x y => (Wh.order x y)) (fun _ => True) (fun _ _ _ h => h) (fun x y => worder_ok x y) hf74 (by first | assumption | exact hsp)) hf108 (fun w hw => ⟨(rd_rowN (i := (Wh.place t.due wh.now).toNat) (rd_ownN (i := 3) rfl) (by first | assumption | omega)) w hw, trivial⟩) rfl ?_
 refine w_mv rfl rfl ?_
 refine w_p (p_extract rfl rfl) ?_
 refine w_p (p_extract rfl rfl) ?_
 refine w_p (p_assign rfl) ?_
 refine w_p (p_assign rfl) ?_
 refine w_nil (q_then ?_)
 refine c_cut (G := Option Addr × Nat × (Nat → Prop)) (fun ⟨a3_11, c3_11, S3_13⟩ => []) (fun ⟨a3_11, c3_11, S3_13⟩ => [ownN tTimer S3_13 awh_0 (cwh_0.put ((Wh.place t.due wh.now).toNat) a3_11 c3_11) (wh.slots.set ((Wh.place t.due wh.now).toNat) ((wh.slots.getD ((Wh.place t.due wh.now).toNat) []).take (lowF (fun x => (fun (x : DTimer) (y : DTimer) => (Wh.order x y)) x t) (wh.slots.getD ((Wh.place t.due wh.now).toNat) []) : Int).toNat ++ ([(⟨t.id, t.due⟩ : DTimer)]) ++ (wh.slots.getD ((Wh.place t.due wh.now).toNat) []).drop (lowF (fun x => (fun (x : DTimer) (y : DTimer) => (Wh.order x y)) x t) (wh.slots.getD ((Wh.place t.due wh.now).toNat) []) : Int).toNat)), box B2 [Vi t.id, Vi t.due] 52, box B1 [Vi wh.now, .slice awh_0 wh.slots.length cwh_0.n] 50, outer w0 [ownN tTimer Swh_0 awh_0 cwh_0 wh.slots]]) (fun K hK4 => ?_) ?_
 ·refine c_held hmix [box B2 [Vi t.id, Vi t.due] 52, box B1 [Vi wh.now, .slice awh_0 wh.slots.length cwh_0.n] 50, outer w0 [ownN tTimer Swh_0 awh_0 cwh_0 wh.slots]] rfl rfl ?_
  refine h_tk (i := 0) (ls := #[T1,F0,F0,F0,F0,F0,F0,F0,F0,F0,F0,F0,F0,F0]) rfl (p_fieldAddr (j' := 1) rfl fo50_1 rfl) (dp (lj (lj (lj (lz (ln)))))) ?_
  refine h_tk (i := 1) (ls := #[T1,T1,F0,F0,F0,F0,F0,F0,F0,F0,F0,F0,F0,F0]) rfl (p_load (i := 1) (v := .slice awh_0 wh.slots.length cwh_0.n) rfl rfl sh48 rfl) (dp (lj (lj (lj (lz (ln)))))) ?_
  refine h_tk (i := 2) (ls := #[T1,T1,T1,F0,F0,F0,F0,F0,F0,F0,F0,F0,F0,F0]) rfl (p_move rfl) (dp (lj (lj (lj (lz (ln)))))) ?_
  refine h_tk (i := 3) (ls := #[T1,T1,T1,T1,F0,F0,F0,F0,F0,F0,F0,F0,F0,F0]) rfl (p_fieldAddr (j' := 1) rfl fo50_1 rfl) (dp (lj (lj (lj (lz (ln)))))) ?_
  refine h_tk (i := 4) (ls := #[T1,T1,T1,T1,T1,F0,F0,F0,F0,F0,F0,F0,F0,F0]) rfl (p_load (i := 1) (v := .slice awh_0 wh.slots.length cwh_0.n) rfl rfl sh48 rfl) (dp (lj (lj (lj (lz (ln)))))) ?_
  refine h_tk (i := 5) (ls := #[T1,T1,T1,T1,T1,T1,F0,F0,F0,F0,F0,F0,F0,F0]) rfl (p_move rfl) (dp (lj (lj (lj (lz (ln)))))) ?_
  refine h_tk (i := 8) (ls := #[T1,T1,T1,T1,T1,T1,F0,F0,T1,F0,F0,F0,F0,F0]) rfl (p_move rfl) (dp (lj (lj (lj (lz (ln)))))) ?_
  refine h_tk (i := 9) (ls := #[T1,T1,T1,T1,T1,T1,F0,F0,T1,T1,F0,F0,F0,F0]) rfl (p_load_agg (i := 0) (vs := [Vi t.id, Vi t.due]) rfl rfl sh52 rfl rfl) (dp (lj (lj (lj (lz (ln)))))) ?_
  refine h_two (i := 6) (j := 10) (ls := #[T1,T1,T1,T1,T1,T1,T1,F0,T1,T1,F0,F0,F0,F0]) (ls' := #[T1,T1,T1,T1,T1,T1,F0,F0,T1,T1,T1,F0,F0,F0]) (by kernel_rfl) rfl rfl rfl rfl ?_ ?_
  ·refine o_p (p_indexAddrN (T := tTimer) (c := cwh_0) (LL := wh.slots) (i := (Wh.place t.due wh.now)) rfl rfl (rd_ownN (i := 3) rfl) Try.underlying48 sz57 (by first | omega | decide) (by first | omega | decide)) ?_
   refine o_nil ?_
   refine h_next (dp (lj (lj (lj (lz (ln)))))) ?_
   refine h_two (i := 7) (j := 10) (ls := #[T1,T1,T1,T1,T1,T1,T1,T1,T1,T1,F0,F0,F0,F0]) (ls' := #[T1,T1,T1,T1,T1,T1,T1,F0,T1,T1,T1,F0,F0,F0]) (by kernel_rfl) rfl rfl rfl rfl ?_ ?_
   ·refine o_p (p_loadN (T := tTimer) (c := cwh_0) (LL := wh.slots) (i := (Wh.place t.due wh.now).toNat) rfl (rd_ownN (i := 3) rfl) (by first | assumption | omega | decide) sh57) ?_
    refine o_nil ?_
    refine h_next (dp (lj (lj (lj (lz (ln)))))) ?_
    refine h_one (i := 10) (ls := #[T1,T1,T1,T1,T1,T1,T1,T1,T1,T1,T1,F0,F0,F0]) (by kernel_rfl) rfl rfl ?_
    refine o_buildSlice (m := 1) (T := tTimer) (L := [(⟨t.id, t.due⟩ : DTimer)]) (vs := [.agg #[Vi t.id, Vi t.due]]) rfl rfl rfl rfl Try.underlying57 sz52 (by decide) ze52 rfl (by decide) rfl (fun S3_10 a3_10 => ?_)
    refine o_nil ?_
    refine h_next (dp (lz (lj (lj (lj (lz (ln))))))) ?_
    refine h_one (i := 11) (ls := #[T1,T1,T1,T1,T1,T1,T1,T1,T1,T1,T1,T1,F0,F0]) (by kernel_rfl) rfl rfl ?_
    refine o_pick (H' := [ownN tTimer Swh_0 awh_0 cwh_0 wh.slots, own tTimer S3_10 a3_10 ([(⟨t.id, t.due⟩ : DTimer)].length) ([(⟨t.id, t.due⟩ : DTimer)]), box B2 [Vi t.id, Vi t.due] 52, box B1 [Vi wh.now, .slice awh_0 wh.slots.length cwh_0.n] 50, outer w0 [ownN tTimer Swh_0 awh_0 cwh_0 wh.slots]]) [4, 0, 1, 2, 3] (by decide) rfl ?_
    refine o_outN (k := (Wh.place t.due wh.now).toNat) (by first | assumption | omega) (fun S3_11 S3_11_1 => ?_)
    refine o_pick (H' := [own tTimer S3_11 (cwh_0.ra ((Wh.place t.due wh.now).toNat)) (cwh_0.rc ((Wh.place t.due wh.now).toNat)) (wh.slots.getD ((Wh.place t.due wh.now).toNat) []), own tTimer S3_10 a3_10 ([(⟨t.id, t.due⟩ : DTimer)].length) ([(⟨t.id, t.due⟩ : DTimer)]), ownX tTimer S3_11_1 awh_0 cwh_0 wh.slots (fun i => i = ((Wh.place t.due wh.now).toNat)), box B2 [Vi t.id, Vi t.due] 52, box B1 [Vi wh.now, .slice awh_0 wh.slots.length cwh_0.n] 50, outer w0 [ownN tTimer Swh_0 awh_0 cwh_0 wh.slots]]) [0, 2, 1, 3, 4, 5] (by decide) rfl ?_
    refine o_callX (pre := [own tTimer S3_11 (cwh_0.ra ((Wh.place t.due wh.now).toNat)) (cwh_0.rc ((Wh.place t.due wh.now).toNat)) (wh.slots.getD ((Wh.place t.due wh.now).toNat) []), own tTimer S3_10 a3_10 ([(⟨t.id, t.due⟩ : DTimer)].length) ([(⟨t.id, t.due⟩ : DTimer)])]) (R := [ownX tTimer S3_11_1 awh_0 cwh_0 wh.slots (fun i => i = ((Wh.place t.due wh.now).toNat)), box B2 [Vi t.id, Vi t.due] 52, box B1 [Vi wh.now, .slice awh_0 wh.slots.length cwh_0.n] 50, outer w0 [ownN tTimer Swh_0 awh_0 cwh_0 wh.slots]]) rfl (insert_Timer_ok (wh.slots.getD ((Wh.place t.due wh.now).toNat) []) (cwh_0.ra ((Wh.place t.due wh.now).toNat)) (cwh_0.rc ((Wh.place t.due wh.now).toNat)) S3_11 (lowF (fun x => (fun (x : DTimer) (y : DTimer) => (Wh.order x y)) x t) (wh.slots.getD ((Wh.place t.due wh.now).toNat) []) : Int) ([(⟨t.id, t.due⟩ : DTimer)]) a3_10 ([(⟨t.id, t.due⟩ : DTimer)].length) S3_10 (by (try simp only [List.length_cons, List.length_nil, List.length_append, List.length_take, List.length_drop, and_true]); omega)) hf109 rfl (fun _ _ => trivial) rfl ?_
    rintro ⟨a3_11, c3_11, S3_11_2⟩
    refine o_asH (H' := [own tTimer S3_11_2 a3_11 c3_11 ((wh.slots.getD ((Wh.place t.due wh.now).toNat) []).take (lowF (fun x => (fun (x : DTimer) (y : DTimer) => (Wh.order x y)) x t) (wh.slots.getD ((Wh.place t.due wh.now).toNat) []) : Int).toNat ++ ([(⟨t.id, t.due⟩ : DTimer)]) ++ (wh.slots.getD ((Wh.place t.due wh.now).toNat) []).drop (lowF (fun x => (fun (x : DTimer) (y : DTimer) => (Wh.order x y)) x t) (wh.slots.getD ((Wh.place t.due wh.now).toNat) []) : Int).toNat), ownX tTimer S3_11_1 awh_0 cwh_0 wh.slots (fun i => i = ((Wh.place t.due wh.now).toNat)), box B2 [Vi t.id, Vi t.due] 52, box B1 [Vi wh.now, .slice awh_0 wh.slots.length cwh_0.n] 50, outer w0 [ownN tTimer Swh_0 awh_0 cwh_0 wh.slots]]) rfl ?_
    refine o_nil ?_
    refine h_next (dp (lz (lz (lj (lj (lj (ln))))))) ?_
    refine h_one (i := 12) (ls := #[T1,T1,T1,T1,T1,T1,T1,T1,T1,T1,T1,T1,T1,F0]) (by kernel_rfl) rfl rfl ?_
    refine o_p (p_indexAddrX (T := tTimer) (c := cwh_0) (LL := wh.slots) (i := (Wh.place t.due wh.now)) (j := 1) rfl rfl rfl Try.underlying48 sz57 (by first | omega | decide) (by first | omega | decide)) ?_
    refine o_nil ?_
    refine h_next (dp (lz (lz (lj (lj (lj (ln))))))) ?_
    refine h_one (i := 13) (ls := #[T1,T1,T1,T1,T1,T1,T1,T1,T1,T1,T1,T1,T1,T1]) (by kernel_rfl) rfl rfl ?_
    refine o_storeRow (k := (Wh.place t.due wh.now).toNat) (T := tTimer) rfl rfl (by first | assumption | omega | (simp only [List.length_set]; omega)) sz57 (Sub.refl _) (fun S3_13 => ?_)
    refine o_nil ?_
    refine h_next (dp (lz (lj (lj (lj (ln)))))) ?_
    refine h_done (by kernel_rfl) ?_
    refine q_kont hK4 (a3_11, c3_11, S3_13) (Sub.nil _) (pk [0, 1, 2, 3])
   ·refine o_buildSlice (m := 1) (T := tTimer) (L := [(⟨t.id, t.due⟩ : DTimer)]) (vs := [.agg #[Vi t.id, Vi t.due]]) rfl rfl rfl rfl Try.underlying57 sz52 (by decide) ze52 rfl (by decide) rfl (fun S3_10 a3_10 => ?_)
    refine o_nil ?_
    refine h_next (dp (lz (lj (lj (lj (lz (ln))))))) ?_
    refine h_one (i := 7) (ls := #[T1,T1,T1,T1,T1,T1,T1,T1,T1,T1,T1,F0,F0,F0]) (by kernel_rfl) rfl rfl ?_
    refine o_p (p_loadN (T := tTimer) (c := cwh_0) (LL := wh.slots) (i := (Wh.place t.due wh.now).toNat) rfl (rd_ownN (i := 4) rfl) (by first | assumption | omega | decide) sh57) ?_
    refine o_nil ?_
    refine h_next (dp (lz (lj (lj (lj (lz (ln))))))) ?_
    refine h_one (i := 11) (ls := #[T1,T1,T1,T1,T1,T1,T1,T1,T1,T1,T1,T1,F0,F0]) (by kernel_rfl) rfl rfl ?_
    refine o_pick (H' := [ownN tTimer Swh_0 awh_0 cwh_0 wh.slots, own tTimer S3_10 a3_10 ([(⟨t.id, t.due⟩ : DTimer)].length) ([(⟨t.id, t.due⟩ : DTimer)]), box B2 [Vi t.id, Vi t.due] 52, box B1 [Vi wh.now, .slice awh_0 wh.slots.length cwh_0.n] 50, outer w0 [ownN tTimer Swh_0 awh_0 cwh_0 wh.slots]]) [4, 0, 1, 2, 3] (by decide) rfl ?_
    refine o_outN (k := (Wh.place t.due wh.now).toNat) (by first | assumption | omega) (fun S3_11 S3_11_1 => ?_)
    refine o_pick (H' := [own tTimer S3_11 (cwh_0.ra ((Wh.place t.due wh.now).toNat)) (cwh_0.rc ((Wh.place t.due wh.now).toNat)) (wh.slots.getD ((Wh.place t.due wh.now).toNat) []), own tTimer S3_10 a3_10 ([(⟨t.id, t.due⟩ : DTimer)].length) ([(⟨t.id, t.due⟩ : DTimer)]), ownX tTimer S3_11_1 awh_0 cwh_0 wh.slots (fun i => i = ((Wh.place t.due wh.now).toNat)), box B2 [Vi t.id, Vi t.due] 52, box B1 [Vi wh.now, .slice awh_0 wh.slots.length cwh_0.n] 50, outer w0 [ownN tTimer Swh_0 awh_0 cwh_0 wh.slots]]) [0, 2, 1, 3, 4, 5] (by decide) rfl ?_
    refine o_callX (pre := [own tTimer S3_11 (cwh_0.ra ((Wh.place t.due wh.now).toNat)) (cwh_0.rc ((Wh.place t.due wh.now).toNat)) (wh.slots.getD ((Wh.place t.due wh.now).toNat) []), own tTimer S3_10 a3_10 ([(⟨t.id, t.due⟩ : DTimer)].length) ([(⟨t.id, t.due⟩ : DTimer)])]) (R := [ownX tTimer S3_11_1 awh_0 cwh_0 wh.slots (fun i => i = ((Wh.place t.due wh.now).toNat)), box B2 [Vi t.id, Vi t.due] 52, box B1 [Vi wh.now, .slice awh_0 wh.slots.length cwh_0.n] 50, outer w0 [ownN tTimer Swh_0 awh_0 cwh_0 wh.slots]]) rfl (insert_Timer_ok (wh.slots.getD ((Wh.place t.due wh.now).toNat) []) (cwh_0.ra ((Wh.place t.due wh.now).toNat)) (cwh_0.rc ((Wh.place t.due wh.now).toNat)) S3_11 (lowF (fun x => (fun (x : DTimer) (y : DTimer) => (Wh.order x y)) x t) (wh.slots.getD ((Wh.place t.due wh.now).toNat) []) : Int) ([(⟨t.id, t.due⟩ : DTimer)]) a3_10 ([(⟨t.id, t.due⟩ : DTimer)].length) S3_10 (by (try simp only [List.length_cons, List.length_nil, List.length_append, List.length_take, List.length_drop, and_true]); omega)) hf109 rfl (fun _ _ => trivial) rfl ?_
    rintro ⟨a3_11, c3_11, S3_11_2⟩
    refine o_asH (H' := [own tTimer S3_11_2 a3_11 c3_11 ((wh.slots.getD ((Wh.place t.due wh.now).toNat) []).take (lowF (fun x => (fun (x : DTimer) (y : DTimer) => (Wh.order x y)) x t) (wh.slots.getD ((Wh.place t.due wh.now).toNat) []) : Int).toNat ++ ([(⟨t.id, t.due⟩ : DTimer)]) ++ (wh.slots.getD ((Wh.place t.due wh.now).toNat) []).drop (lowF (fun x => (fun (x : DTimer) (y : DTimer) => (Wh.order x y)) x t) (wh.slots.getD ((Wh.place t.due wh.now).toNat) []) : Int).toNat), ownX tTimer S3_11_1 awh_0 cwh_0 wh.slots (fun i => i = ((Wh.place t.due wh.now).toNat)), box B2 [Vi t.id, Vi t.due] 52, box B1 [Vi wh.now, .slice awh_0 wh.slots.length cwh_0.n] 50, outer w0 [ownN tTimer Swh_0 awh_0 cwh_0 wh.slots]]) rfl ?_
    refine o_nil ?_
    refine h_next (dp (lz (lz (lj (lj (lj (ln))))))) ?_
    refine h_one (i := 12) (ls := #[T1,T1,T1,T1,T1,T1,T1,T1,T1,T1,T1,T1,T1,F0]) (by kernel_rfl) rfl rfl ?_
    refine o_p (p_indexAddrX (T := tTimer) (c := cwh_0) (LL := wh.slots) (i := (Wh.place t.due wh.now)) (j := 1) rfl rfl rfl Try.underlying48 sz57 (by first | omega | decide) (by first | omega | decide)) ?_
    refine o_nil ?_
    refine h_next (dp (lz (lz (lj (lj (lj (ln))))))) ?_
    refine h_one (i := 13) (ls := #[T1,T1,T1,T1,T1,T1,T1,T1,T1,T1,T1,T1,T1,T1]) (by kernel_rfl) rfl rfl ?_
    refine o_storeRow (k := (Wh.place t.due wh.now).toNat) (T := tTimer) rfl rfl (by first | assumption | omega | (simp only [List.length_set]; omega)) sz57 (Sub.refl _) (fun S3_13 => ?_)
    refine o_nil ?_
    refine h_next (dp (lz (lj (lj (lj (ln)))))) ?_
    refine h_done (by kernel_rfl) ?_
    refine q_kont hK4 (a3_11, c3_11, S3_13) (Sub.nil _) (pk [0, 1, 2, 3])
  ·refine o_buildSlice (m := 1) (T := tTimer) (L := [(⟨t.id, t.due⟩ : DTimer)]) (vs := [.agg #[Vi t.id, Vi t.due]]) rfl rfl rfl rfl Try.underlying57 sz52 (by decide) ze52 rfl (by decide) rfl (fun S3_10 a3_10 => ?_)
   refine o_nil ?_
   refine h_next (dp (lz (lj (lj (lj (lz (ln))))))) ?_
   refine h_one (i := 6) (ls := #[T1,T1,T1,T1,T1,T1,T1,F0,T1,T1,T1,F0,F0,F0]) (by kernel_rfl) rfl rfl ?_
   refine o_p (p_indexAddrN (T := tTimer) (c := cwh_0) (LL := wh.slots) (i := (Wh.place t.due wh.now)) rfl rfl (rd_ownN (i := 4) rfl) Try.underlying48 sz57 (by first | omega | decide) (by first | omega | decide)) ?_
   refine o_nil ?_
   refine h_next (dp (lz (lj (lj (lj (lz (ln))))))) ?_
   refine h_one (i := 7) (ls := #[T1,T1,T1,T1,T1,T1,T1,T1,T1,T1,T1,F0,F0,F0]) (by kernel_rfl) rfl rfl ?_
   refine o_p (p_loadN (T := tTimer) (c := cwh_0) (LL := wh.slots) (i := (Wh.place t.due wh.now).toNat) rfl (rd_ownN (i := 4) rfl) (by first | assumption | omega | decide) sh57) ?_
   refine o_nil ?_
   refine h_next (dp (lz (lj (lj (lj (lz (ln))))))) ?_
   refine h_one (i := 11) (ls := #[T1,T1,T1,T1,T1,T1,T1,T1,T1,T1,T1,T1,F0,F0]) (by kernel_rfl) rfl rfl ?_
   refine o_pick (H' := [ownN tTimer Swh_0 awh_0 cwh_0 wh.slots, own tTimer S3_10 a3_10 ([(⟨t.id, t.due⟩ : DTimer)].length) ([(⟨t.id, t.due⟩ : DTimer)]), box B2 [Vi t.id, Vi t.due] 52, box B1 [Vi wh.now, .slice awh_0 wh.slots.length cwh_0.n] 50, outer w0 [ownN tTimer Swh_0 awh_0 cwh_0 wh.slots]]) [4, 0, 1, 2, 3] (by decide) rfl ?_
   refine o_outN (k := (Wh.place t.due wh.now).toNat) (by first | assumption | omega) (fun S3_11 S3_11_1 => ?_)
   refine o_pick (H' := [own tTimer S3_11 (cwh_0.ra ((Wh.place t.due wh.now).toNat)) (cwh_0.rc ((Wh.place t.due wh.now).toNat)) (wh.slots.getD ((Wh.place t.due wh.now).toNat) []), own tTimer S3_10 a3_10 ([(⟨t.id, t.due⟩ : DTimer)].length) ([(⟨t.id, t.due⟩ : DTimer)]), ownX tTimer S3_11_1 awh_0 cwh_0 wh.slots (fun i => i = ((Wh.place t.due wh.now).toNat)), box B2 [Vi t.id, Vi t.due] 52, box B1 [Vi wh.now, .slice awh_0 wh.slots.length cwh_0.n] 50, outer w0 [ownN tTimer Swh_0 awh_0 cwh_0 wh.slots]]) [0, 2, 1, 3, 4, 5] (by decide) rfl ?_
   refine o_callX (pre := [own tTimer S3_11 (cwh_0.ra ((Wh.place t.due wh.now).toNat)) (cwh_0.rc ((Wh.place t.due wh.now).toNat)) (wh.slots.getD ((Wh.place t.due wh.now).toNat) []), own tTimer S3_10 a3_10 ([(⟨t.id, t.due⟩ : DTimer)].length) ([(⟨t.id, t.due⟩ : DTimer)])]) (R := [ownX tTimer S3_11_1 awh_0 cwh_0 wh.slots (fun i => i = ((Wh.place t.due wh.now).toNat)), box B2 [Vi t.id, Vi t.due] 52, box B1 [Vi wh.now, .slice awh_0 wh.slots.length cwh_0.n] 50, outer w0 [ownN tTimer Swh_0 awh_0 cwh_0 wh.slots]]) rfl (insert_Timer_ok (wh.slots.getD ((Wh.place t.due wh.now).toNat) []) (cwh_0.ra ((Wh.place t.due wh.now).toNat)) (cwh_0.rc ((Wh.place t.due wh.now).toNat)) S3_11 (lowF (fun x => (fun (x : DTimer) (y : DTimer) => (Wh.order x y)) x t) (wh.slots.getD ((Wh.place t.due wh.now).toNat) []) : Int) ([(⟨t.id, t.due⟩ : DTimer)]) a3_10 ([(⟨t.id, t.due⟩ : DTimer)].length) S3_10 (by (try simp only [List.length_cons, List.length_nil, List.length_append, List.length_take, List.length_drop, and_true]); omega)) hf109 rfl (fun _ _ => trivial) rfl ?_
   rintro ⟨a3_11, c3_11, S3_11_2⟩
   refine o_asH (H' := [own tTimer S3_11_2 a3_11 c3_11 ((wh.slots.getD ((Wh.place t.due wh.now).toNat) []).take (lowF (fun x => (fun (x : DTimer) (y : DTimer) => (Wh.order x y)) x t) (wh.slots.getD ((Wh.place t.due wh.now).toNat) []) : Int).toNat ++ ([(⟨t.id, t.due⟩ : DTimer)]) ++ (wh.slots.getD ((Wh.place t.due wh.now).toNat) []).drop (lowF (fun x => (fun (x : DTimer) (y : DTimer) => (Wh.order x y)) x t) (wh.slots.getD ((Wh.place t.due wh.now).toNat) []) : Int).toNat), ownX tTimer S3_11_1 awh_0 cwh_0 wh.slots (fun i => i = ((Wh.place t.due wh.now).toNat)), box B2 [Vi t.id, Vi t.due] 52, box B1 [Vi wh.now, .slice awh_0 wh.slots.length cwh_0.n] 50, outer w0 [ownN tTimer Swh_0 awh_0 cwh_0 wh.slots]]) rfl ?_
   refine o_nil ?_
   refine h_next (dp (lz (lz (lj (lj (lj (ln))))))) ?_
   refine h_one (i := 12) (ls := #[T1,T1,T1,T1,T1,T1,T1,T1,T1,T1,T1,T1,T1,F0]) (by kernel_rfl) rfl rfl ?_
   refine o_p (p_indexAddrX (T := tTimer) (c := cwh_0) (LL := wh.slots) (i := (Wh.place t.due wh.now)) (j := 1) rfl rfl rfl Try.underlying48 sz57 (by first | omega | decide) (by first | omega | decide)) ?_
   refine o_nil ?_
   refine h_next (dp (lz (lz (lj (lj (lj (ln))))))) ?_
   refine h_one (i := 13) (ls := #[T1,T1,T1,T1,T1,T1,T1,T1,T1,T1,T1,T1,T1,T1]) (by kernel_rfl) rfl rfl ?_
   refine o_storeRow (k := (Wh.place t.due wh.now).toNat) (T := tTimer) rfl rfl (by first | assumption | omega | (simp only [List.length_set]; omega)) sz57 (Sub.refl _) (fun S3_13 => ?_)
   refine o_nil ?_
   refine h_next (dp (lz (lj (lj (lj (ln)))))) ?_
   refine h_done (by kernel_rfl) ?_
   refine q_kont hK4 (a3_11, c3_11, S3_13) (Sub.nil _) (pk [0, 1, 2, 3])
 rintro ⟨a3_11, c3_11, S3_13⟩
 show SQ _ 35 w0 _ _ [] [ownN tTimer S3_13 awh_0 (cwh_0.put ((Wh.place t.due wh.now).toNat) a3_11 c3_11) (wh.slots.set ((Wh.place t.due wh.now).toNat) ((wh.slots.getD ((Wh.place t.due wh.now).toNat) []).take (lowF (fun x => (fun (x : DTimer) (y : DTimer) => (Wh.order x y)) x t) (wh.slots.getD ((Wh.place t.due wh.now).toNat) []) : Int).toNat ++ ([(⟨t.id, t.due⟩ : DTimer)]) ++ (wh.slots.getD ((Wh.place t.due wh.now).toNat) []).drop (lowF (fun x => (fun (x : DTimer) (y : DTimer) => (Wh.order x y)) x t) (wh.slots.getD ((Wh.place t.due wh.now).toNat) []) : Int).toNat)), box B2 [Vi t.id, Vi t.due] 52, box B1 [Vi wh.now, .slice awh_0 wh.slots.length cwh_0.n] 50, outer w0 [ownN tTimer Swh_0 awh_0 cwh_0 wh.slots]]
 refine q_cast (F' := []) (H := [ownN tTimer S3_13 awh_0 (cwh_0.put ((Wh.place t.due wh.now).toNat) a3_11 c3_11) (wh.slots.set ((Wh.place t.due wh.now).toNat) ((wh.slots.getD ((Wh.place t.due wh.now).toNat) []).take (lowF (fun x => (fun (x : DTimer) (y : DTimer) => (Wh.order x y)) x t) (wh.slots.getD ((Wh.place t.due wh.now).toNat) []) : Int).toNat ++ ([(⟨t.id, t.due⟩ : DTimer)]) ++ (wh.slots.getD ((Wh.place t.due wh.now).toNat) []).drop (lowF (fun x => (fun (x : DTimer) (y : DTimer) => (Wh.order x y)) x t) (wh.slots.getD ((Wh.place t.due wh.now).toNat) []) : Int).toNat)), box B2 [Vi t.id, Vi t.due] 52, box B1 [Vi wh.now, .slice awh_0 wh.slots.length cwh_0.n] 50, outer w0 [ownN tTimer Swh_0 awh_0 cwh_0 wh.slots]]) (H' := [ownN tTimer S3_13 awh_0 (cwh_0.put ((Wh.place t.due wh.now).toNat) a3_11 c3_11) (wh.slots.set ((Wh.place t.due wh.now).toNat) ((wh.slots.getD ((Wh.place t.due wh.now).toNat) []).take (lowF (fun x => (fun (x : DTimer) (y : DTimer) => (Wh.order x y)) x t) (wh.slots.getD ((Wh.place t.due wh.now).toNat) []) : Int).toNat ++ ([(⟨t.id, t.due⟩ : DTimer)]) ++ (wh.slots.getD ((Wh.place t.due wh.now).toNat) []).drop (lowF (fun x => (fun (x : DTimer) (y : DTimer) => (Wh.order x y)) x t) (wh.slots.getD ((Wh.place t.due wh.now).toNat) []) : Int).toNat)), box B2 [Vi t.id, Vi t.due] 52, box B1 [Vi wh.now, .slice awh_0 (wh.slots.set ((Wh.place t.due wh.now).toNat) ((wh.slots.getD ((Wh.place t.due wh.now).toNat) []).take (lowF (fun x => (fun (x : DTimer) (y : DTimer) => (Wh.order x y)) x t) (wh.slots.getD ((Wh.place t.due wh.now).toNat) []) : Int).toNat ++ ([(⟨t.id, t.due⟩ : DTimer)]) ++ (wh.slots.getD ((Wh.place t.due wh.now).toNat) []).drop (lowF (fun x => (fun (x : DTimer) (y : DTimer) => (Wh.order x y)) x t) (wh.slots.getD ((Wh.place t.due wh.now).toNat) []) : Int).toNat)).length (cwh_0.put ((Wh.place t.due wh.now).toNat) a3_11 c3_11).n] 50, outer w0 [ownN tTimer Swh_0 awh_0 cwh_0 wh.slots]]) (Sub.nil _) (by simp only [List.length_set, List.length_reverse, NC.put_n]) ?_
 have hr0 : ((wh.slots.set ((Wh.place t.due wh.now).toNat) ((wh.slots.getD ((Wh.place t.due wh.now).toNat) []).take (lowF (fun x => (fun (x : DTimer) (y : DTimer) => (Wh.order x y)) x t) (wh.slots.getD ((Wh.place t.due wh.now).toNat) []) : Int).toNat ++ ([(⟨t.id, t.due⟩ : DTimer)]) ++ (wh.slots.getD ((Wh.place t.due wh.now).toNat) []).drop (lowF (fun x => (fun (x : DTimer) (y : DTimer) => (Wh.order x y)) x t) (wh.slots.getD ((Wh.place t.due wh.now).toNat) []) : Int).toNat)) : List (List DTimer)) = ((Wh.put wh t).slots) := by
  first | rfl | omega
 refine q_endX (p := (((cwh_0.put ((Wh.place t.due wh.now).toNat) a3_11 c3_11)).ra, ((cwh_0.put ((Wh.place t.due wh.now).toNat) a3_11 c3_11)).rc, S3_13)) (rt0 rfl) ?_ (fun w hw => ?_)
 ·exact rfl
 ·have h2 := hw.pick (H' := [outer w0 [ownN tTimer Swh_0 awh_0 cwh_0 wh.slots], ownN tTimer S3_13 awh_0 (cwh_0.put ((Wh.place t.due wh.now).toNat) a3_11 c3_11) (wh.slots.set ((Wh.place t.due wh.now).toNat) ((wh.slots.getD ((Wh.place t.due wh.now).toNat) []).take (lowF (fun x => (fun (x : DTimer) (y : DTimer) => (Wh.order x y)) x t) (wh.slots.getD ((Wh.place t.due wh.now).toNat) []) : Int).toNat ++ ([(⟨t.id, t.due⟩ : DTimer)]) ++ (wh.slots.getD ((Wh.place t.due wh.now).toNat) []).drop (lowF (fun x => (fun (x : DTimer) (y : DTimer) => (Wh.order x y)) x t) (wh.slots.getD ((Wh.place t.due wh.now).toNat) []) : Int).toNat))]) [3, 0] (by decide) rfl
  exact Eq.mp (congrArg (fun z => HeapIs w0 ((outer w0 [ownN tTimer Swh_0 awh_0 cwh_0 wh.slots]) :: z) w) ((by have hcc := congrArg (fun (y0 : List (List DTimer)) => ([ownN tTimer S3_13 awh_0 (⟨cwh_0.n, ((cwh_0.put ((Wh.place t.due wh.now).toNat) a3_11 c3_11)).ra, ((cwh_0.put ((Wh.place t.due wh.now).toNat) a3_11 c3_11)).rc⟩ : NC) y0] : List Ent)) hr0; exact hcc))) h2

set_option maxHeartbeats 8000000 in
set_option maxRecDepth 100000 in
theorem wadd_ok (wh : DWheel) (awh_0 : Option Addr) (cwh_0 : NC) (t : DTimer) : FnM Try.prog 30 [.agg #[Vi wh.now, .slice awh_0 wh.slots.length cwh_0.n], .agg #[Vi t.id, Vi t.due]] (fun w => RdN tTimer w awh_0 cwh_0 wh.slots) (Option Addr × NC) (fun p => .tuple #[.agg #[Vi ((Wh.add wh t).now), .slice p.1 ((Wh.add wh t).slots).length p.2.n], Vi (Wh.addErr wh t)]) (fun p S w => SlON tTimer S w p.1 p.2 ((Wh.add wh t).slots)) := by
 refine fnM (nt := 43) (F0 := [(0, .agg #[Vi wh.now, .slice awh_0 wh.slots.length cwh_0.n]), (1, .agg #[Vi t.id, Vi t.due])]) Try.func30 rfl Try.ntmps30 rfl rfl (fun w0 hpre => ?_)
 have hwh_0 := hpre
 have hlhwh_0 := hwh_0.2.1
 refine c_seq (c_region ?_)
 refine o_box (v := .agg #[Vi wh.now, .slice awh_0 wh.slots.length cwh_0.n]) rfl rfl (fun B1 => ?_)
 refine o_box (v := .agg #[Vi t.id, Vi t.due]) rfl rfl (fun B2 => ?_)
 refine o_alloc ze50 rfl (fun B3 => ?_)
 refine o_as rfl rfl ?_
 refine o_nil (q_then (c_seq (c_seq (c_region ?_))))
 refine o_p (p_load_agg (i := 2) (vs := [Vi wh.now, .slice awh_0 wh.slots.length cwh_0.n]) rfl rfl sh50 rfl rfl) ?_
 refine o_call0 (v := Vi (Wh.check wh)) rfl (wcheck_ok wh awh_0 cwh_0) hf41 (fun w hw => (rd_baseN (i := 3) rfl hwh_0) w hw) rfl ?_
 refine o_as rfl rfl ?_
 refine o_nil (q_then (c_seq (c_region ?_)))
 refine o_mv rfl rfl ?_
 refine o_p (p_ne rfl rfl) ?_
 refine o_nil (q_then ?_)
 refine c_cond rfl (fun hc4 => ?_) (fun hc4 => ?_)
 ·simp only [bne_iff_ne, ne_eq] at hc4
  have hch := hc4
  refine c_seq (c_region ?_)
  refine o_p (p_build (cells := [Vi 0, .slice none 0 0]) fp50 ze50 rfl rfl) ?_
  refine o_mv rfl rfl ?_
  refine o_storeN (i := 0) (vs := [Vi 0, .slice none 0 0]) (cs' := [Vi 0, .slice none 0 0]) rfl rfl rfl sz50 rfl rfl rfl rfl ?_
  refine o_as rfl rfl ?_
  refine o_nil (q_then (c_ret ?_))
  refine q_then_ret ?_
  obtain ⟨c1, c2⟩ : _ ∧ _ := by first | exact Wh.ad1 (w := wh) (t := t) (by omega) | exact Wh.ad2 (w := wh) (t := t) hch hrt | exact Wh.ad3 (w := wh) (t := t) hch hrt hfn | exact Wh.ad4 (w := wh) (t := t) hch hrt (by simpa using hfn) (by omega) | exact Wh.ad5 (w := wh) (t := t) hch hrt (by simpa using hfn) (by omega)
  have hr0 : (0 : Int) = (Wh.add wh t).now := by
   first | (rw [c1]; done) | (rw [c1]; rfl) | exact c2.symm
  have hr1 : ([] : List (List DTimer)) = (Wh.add wh t).slots := by
   first | (rw [c1]; done) | (rw [c1]; rfl) | exact c2.symm
  have hr2 : ((Wh.check wh) : Int) = (Wh.addErr wh t) := by
   first | (rw [c1]; done) | (rw [c1]; rfl) | exact c2.symm
  refine q_endM (p := (none, nc0)) (fun _ => False) (rt2 rfl (r_cell (i := 0) rfl rfl sh50 rfl) (r_tmp rfl)) (i := 3) rfl ?_ ?_ ?_
  ·exact (by have hcc := congr (congr (congrArg (fun (y0 : Int) (y1 : List (List DTimer)) (y2 : Int) => (.tuple #[.agg #[.int .i64 y0, .slice none y1.length 0], .int .i64 y2] : Value)) hr0) hr1) hr2; exact hcc)
  ·intro w hw b hb; exact hb.elim
  ·intro w hw; exact Eq.mp (congrArg (fun y => SlON tTimer _ w none nc0 y) hr1) (SlON.nil tTimer w)
 ·simp only [bne_eq_false_iff_eq] at hc4
  have hch : Wh.check wh = 0 := by omega
  have hok := Wh.check_ok.1 hch
  have hrows := hok.rows
  have hnw := hok.now
  refine c_skip (q_then (c_seq (c_seq (c_region ?_))))
  refine o_p (p_load_agg (i := 1) (vs := [Vi t.id, Vi t.due]) rfl rfl sh52 rfl rfl) ?_
  refine o_p (p_fieldAddr (j' := 0) rfl fo50_0 rfl) ?_
  refine o_p (p_load (i := 2) (v := Vi wh.now) rfl rfl sh3 rfl) ?_
  refine o_call0 (v := .bool (Wh.right t wh.now)) rfl (wright_ok t wh.now) hf66 (fun _ _ => trivial) rfl ?_
  refine o_p (p_not (b := (Wh.right t wh.now)) rfl) ?_
  refine o_nil (q_then ?_)
  refine c_cond rfl (fun hc5 => ?_) (fun hc5 => ?_)
  ·simp only [Bool.not_eq_true'] at hc5
   have hrt : Wh.right t wh.now = false := by simpa using hc5
   refine c_seq (c_region ?_)
   refine o_p (p_build (cells := [Vi 0, .slice none 0 0]) fp50 ze50 rfl rfl) ?_
   refine o_storeN (i := 0) (vs := [Vi 0, .slice none 0 0]) (cs' := [Vi 0, .slice none 0 0]) rfl rfl rfl sz50 rfl rfl rfl rfl ?_
   refine o_as rfl rfl ?_
   refine o_nil (q_then (c_ret ?_))
   refine q_then_ret ?_
   obtain ⟨c1, c2⟩ : _ ∧ _ := by first | exact Wh.ad1 (w := wh) (t := t) (by omega) | exact Wh.ad2 (w := wh) (t := t) hch hrt | exact Wh.ad3 (w := wh) (t := t) hch hrt hfn | exact Wh.ad4 (w := wh) (t := t) hch hrt (by simpa using hfn) (by omega) | exact Wh.ad5 (w := wh) (t := t) hch hrt (by simpa using hfn) (by omega)
   have hr0 : (0 : Int) = (Wh.add wh t).now := by
    first | (rw [c1]; done) | (rw [c1]; rfl) | exact c2.symm
   have hr1 : ([] : List (List DTimer)) = (Wh.add wh t).slots := by
    first | (rw [c1]; done) | (rw [c1]; rfl) | exact c2.symm
   have hr2 : (3 : Int) = (Wh.addErr wh t) := by
    first | (rw [c1]; done) | (rw [c1]; rfl) | exact c2.symm
   refine q_endM (p := (none, nc0)) (fun _ => False) (rt2 rfl (r_cell (i := 0) rfl rfl sh50 rfl) (r_tmp rfl)) (i := 3) rfl ?_ ?_ ?_
   ·exact (by have hcc := congr (congr (congrArg (fun (y0 : Int) (y1 : List (List DTimer)) (y2 : Int) => (.tuple #[.agg #[.int .i64 y0, .slice none y1.length 0], .int .i64 y2] : Value)) hr0) hr1) hr2; exact hcc)
   ·intro w hw b hb; exact hb.elim
   ·intro w hw; exact Eq.mp (congrArg (fun y => SlON tTimer _ w none nc0 y) hr1) (SlON.nil tTimer w)
  ·simp only [Bool.not_eq_false'] at hc5
   have hrt : Wh.right t wh.now = true := by simpa using hc5
   refine c_skip (q_then (c_seq (c_seq (c_region ?_))))
   refine o_p (p_load_agg (i := 2) (vs := [Vi wh.now, .slice awh_0 wh.slots.length cwh_0.n]) rfl rfl sh50 rfl rfl) ?_
   refine o_p (p_fieldAddr (j' := 0) rfl fo52_0 rfl) ?_
   refine o_p (p_load (i := 1) (v := Vi t.id) rfl rfl sh3 rfl) ?_
   refine o_call0 (v := .tuple #[Vi ((Wh.find wh t.id).1), Vi ((Wh.find wh t.id).2.1), .bool ((Wh.find wh t.id).2.2)]) rfl (wfind_ok wh awh_0 cwh_0 t.id) hf67 (fun w hw => (rd_baseN (i := 3) rfl hwh_0) w hw) rfl ?_
   refine o_mv rfl rfl ?_
   refine o_ex rfl rfl rfl ?_
   refine o_ex rfl rfl rfl ?_
   refine o_ex rfl rfl rfl ?_
   refine o_as rfl rfl ?_
   refine o_as rfl rfl ?_
   refine o_as rfl rfl ?_
   refine o_nil (q_then (c_seq (c_region ?_)))
   refine o_mv rfl rfl ?_
   refine o_nil (q_then ?_)
   refine c_cond rfl (fun hc6 => ?_) (fun hc6 => ?_)
   ·skip
    have hfn := hc6
    refine c_seq (c_region ?_)
    refine o_p (p_build (cells := [Vi 0, .slice none 0 0]) fp50 ze50 rfl rfl) ?_
    refine o_storeN (i := 0) (vs := [Vi 0, .slice none 0 0]) (cs' := [Vi 0, .slice none 0 0]) rfl rfl rfl sz50 rfl rfl rfl rfl ?_
    refine o_as rfl rfl ?_
    refine o_nil (q_then (c_ret ?_))
    refine q_then_ret ?_
    obtain ⟨c1, c2⟩ : _ ∧ _ := by first | exact Wh.ad1 (w := wh) (t := t) (by omega) | exact Wh.ad2 (w := wh) (t := t) hch hrt | exact Wh.ad3 (w := wh) (t := t) hch hrt hfn | exact Wh.ad4 (w := wh) (t := t) hch hrt (by simpa using hfn) (by omega) | exact Wh.ad5 (w := wh) (t := t) hch hrt (by simpa using hfn) (by omega)
    have hr0 : (0 : Int) = (Wh.add wh t).now := by
     first | (rw [c1]; done) | (rw [c1]; rfl) | exact c2.symm
    have hr1 : ([] : List (List DTimer)) = (Wh.add wh t).slots := by
     first | (rw [c1]; done) | (rw [c1]; rfl) | exact c2.symm
    have hr2 : (6 : Int) = (Wh.addErr wh t) := by
     first | (rw [c1]; done) | (rw [c1]; rfl) | exact c2.symm
    refine q_endM (p := (none, nc0)) (fun _ => False) (rt2 rfl (r_cell (i := 0) rfl rfl sh50 rfl) (r_tmp rfl)) (i := 3) rfl ?_ ?_ ?_
    ·exact (by have hcc := congr (congr (congrArg (fun (y0 : Int) (y1 : List (List DTimer)) (y2 : Int) => (.tuple #[.agg #[.int .i64 y0, .slice none y1.length 0], .int .i64 y2] : Value)) hr0) hr1) hr2; exact hcc)
    ·intro w hw b hb; exact hb.elim
    ·intro w hw; exact Eq.mp (congrArg (fun y => SlON tTimer _ w none nc0 y) hr1) (SlON.nil tTimer w)
   ·skip
    have hfn := hc6
    refine c_skip (q_then (c_seq (c_seq (c_region ?_))))
    refine o_p (p_load_agg (i := 2) (vs := [Vi wh.now, .slice awh_0 wh.slots.length cwh_0.n]) rfl rfl sh50 rfl rfl) ?_
    refine o_call0 (v := Vi ((Wh.timers wh.slots).length : Int)) rfl (wmany_ok wh awh_0 cwh_0 (by first | assumption | exact hok.few)) hf68 (fun w hw => (rd_baseN (i := 3) rfl hwh_0) w hw) rfl ?_
    refine o_p (p_eq rfl rfl) ?_
    refine o_nil (q_then ?_)
    refine c_cond rfl (fun hc7 => ?_) (fun hc7 => ?_)
    ·simp only [beq_iff_eq] at hc7
     have h60 := hc7
     refine c_seq (c_region ?_)
     refine o_p (p_build (cells := [Vi 0, .slice none 0 0]) fp50 ze50 rfl rfl) ?_
     refine o_storeN (i := 0) (vs := [Vi 0, .slice none 0 0]) (cs' := [Vi 0, .slice none 0 0]) rfl rfl rfl sz50 rfl rfl rfl rfl ?_
     refine o_as rfl rfl ?_
     refine o_nil (q_then (c_ret ?_))
     refine q_then_ret ?_
     obtain ⟨c1, c2⟩ : _ ∧ _ := by first | exact Wh.ad1 (w := wh) (t := t) (by omega) | exact Wh.ad2 (w := wh) (t := t) hch hrt | exact Wh.ad3 (w := wh) (t := t) hch hrt hfn | exact Wh.ad4 (w := wh) (t := t) hch hrt (by simpa using hfn) (by omega) | exact Wh.ad5 (w := wh) (t := t) hch hrt (by simpa using hfn) (by omega)
     have hr0 : (0 : Int) = (Wh.add wh t).now := by
      first | (rw [c1]; done) | (rw [c1]; rfl) | exact c2.symm
     have hr1 : ([] : List (List DTimer)) = (Wh.add wh t).slots := by
      first | (rw [c1]; done) | (rw [c1]; rfl) | exact c2.symm
     have hr2 : (8 : Int) = (Wh.addErr wh t) := by
      first | (rw [c1]; done) | (rw [c1]; rfl) | exact c2.symm
     refine q_endM (p := (none, nc0)) (fun _ => False) (rt2 rfl (r_cell (i := 0) rfl rfl sh50 rfl) (r_tmp rfl)) (i := 3) rfl ?_ ?_ ?_
     ·exact (by have hcc := congr (congr (congrArg (fun (y0 : Int) (y1 : List (List DTimer)) (y2 : Int) => (.tuple #[.agg #[.int .i64 y0, .slice none y1.length 0], .int .i64 y2] : Value)) hr0) hr1) hr2; exact hcc)
     ·intro w hw b hb; exact hb.elim
     ·intro w hw; exact Eq.mp (congrArg (fun y => SlON tTimer _ w none nc0 y) hr1) (SlON.nil tTimer w)
    ·simp only [beq_eq_false_iff_ne, ne_eq] at hc7
     have h60 := hc7
     have hfit := Wh.Fit.of hok hrt
     refine c_skip (q_then (c_seq (c_region ?_)))
     refine o_p (p_load_agg (i := 2) (vs := [Vi wh.now, .slice awh_0 wh.slots.length cwh_0.n]) rfl rfl sh50 rfl rfl) ?_
     refine o_callM rfl (wown_ok wh awh_0 cwh_0 (by first | assumption | exact hok.rows)) hf69 (fun w hw => (rd_baseN (i := 3) rfl hwh_0) w hw) rfl (fun _ _ _ _ ha hA => SlON.agree ha hA) ?_
     rintro ⟨a10, c11⟩ S8
     refine o_know (fun w hw => own_lenN (i := 0) (T := tTimer) hw rfl) (fun hlr12 => ?_)
     refine o_alloc ze50 rfl (fun B13 => ?_)
     refine o_storeN (i := 0) (vs := [Vi wh.now, .slice a10 wh.slots.length c11.n]) (cs' := [Vi wh.now, .slice a10 wh.slots.length c11.n]) rfl rfl rfl sz50 rfl rfl rfl rfl ?_
     refine o_nil (q_then (c_seq (c_region ?_)))
     refine o_p (p_load_agg (i := 0) (vs := [Vi wh.now, .slice a10 wh.slots.length c11.n]) rfl rfl sh50 rfl rfl) ?_
     refine o_p (p_load_agg (i := 3) (vs := [Vi t.id, Vi t.due]) rfl rfl sh52 rfl rfl) ?_
     refine o_pick (H' := [ownN tTimer S8 a10 c11 wh.slots, box B13 [Vi wh.now, .slice a10 wh.slots.length c11.n] 50, box B3 [Vi 0, .slice none 0 0] 50, box B2 [Vi t.id, Vi t.due] 52, box B1 [Vi wh.now, .slice awh_0 wh.slots.length cwh_0.n] 50, base w0]) [1, 0, 2, 3, 4, 5] (by decide) rfl ?_
     refine o_callX (pre := [ownN tTimer S8 a10 c11 wh.slots]) (R := [box B13 [Vi wh.now, .slice a10 wh.slots.length c11.n] 50, box B3 [Vi 0, .slice none 0 0] 50, box B2 [Vi t.id, Vi t.due] 52, box B1 [Vi wh.now, .slice awh_0 wh.slots.length cwh_0.n] 50, base w0]) rfl (wput_ok wh a10 c11 S8 t (by first | assumption | exact hfit)) hf70 rfl (fun _ _ => trivial) rfl ?_
     rintro ⟨R14, K15, S16⟩
     refine o_asH (H' := [ownN tTimer S16 a10 (⟨c11.n, R14, K15⟩ : NC) ((Wh.put wh t).slots), box B13 [Vi wh.now, .slice a10 wh.slots.length c11.n] 50, box B3 [Vi 0, .slice none 0 0] 50, box B2 [Vi t.id, Vi t.due] 52, box B1 [Vi wh.now, .slice awh_0 wh.slots.length cwh_0.n] 50, base w0]) rfl ?_
     refine o_cast (F' := [(4, .pointer (some ⟨B3, 0, none⟩)), (10, .pointer (some ⟨B13, 0, none⟩)), (41, .tuple #[])]) (H := [ownN tTimer S16 a10 (⟨c11.n, R14, K15⟩ : NC) ((Wh.put wh t).slots), box B13 [Vi wh.now, .slice a10 wh.slots.length c11.n] 50, box B3 [Vi 0, .slice none 0 0] 50, box B2 [Vi t.id, Vi t.due] 52, box B1 [Vi wh.now, .slice awh_0 wh.slots.length cwh_0.n] 50, base w0]) (H' := [ownN tTimer S16 a10 (⟨c11.n, R14, K15⟩ : NC) ((Wh.put wh t).slots), box B13 [Vi wh.now, .slice a10 ((Wh.put wh t).slots).length (⟨c11.n, R14, K15⟩ : NC).n] 50, box B3 [Vi 0, .slice none 0 0] 50, box B2 [Vi t.id, Vi t.due] 52, box B1 [Vi wh.now, .slice awh_0 wh.slots.length cwh_0.n] 50, base w0]) (sr (sr (sr (Sub.nil _)))) (by simp only [List.length_set, List.length_reverse, Wh.put_len, NC.put_n]) ?_
     refine o_nil (q_then (c_seq (c_region ?_)))
     refine o_p (p_load_agg (i := 1) (vs := [Vi wh.now, .slice a10 ((Wh.put wh t).slots).length (⟨c11.n, R14, K15⟩ : NC).n]) rfl rfl sh50 rfl rfl) ?_
     refine o_storeN (i := 2) (vs := [Vi wh.now, .slice a10 ((Wh.put wh t).slots).length (⟨c11.n, R14, K15⟩ : NC).n]) (cs' := [Vi wh.now, .slice a10 ((Wh.put wh t).slots).length (⟨c11.n, R14, K15⟩ : NC).n]) rfl rfl rfl sz50 rfl rfl rfl rfl ?_
     refine o_as rfl rfl ?_
     refine o_nil (q_then (c_ret ?_))
     obtain ⟨c1, c2⟩ : _ ∧ _ := by first | exact Wh.ad1 (w := wh) (t := t) (by omega) | exact Wh.ad2 (w := wh) (t := t) hch hrt | exact Wh.ad3 (w := wh) (t := t) hch hrt hfn | exact Wh.ad4 (w := wh) (t := t) hch hrt (by simpa using hfn) (by omega) | exact Wh.ad5 (w := wh) (t := t) hch hrt (by simpa using hfn) (by omega)
     have hr0 : (wh.now : Int) = (Wh.add wh t).now := by
      first | (rw [c1]; done) | (rw [c1]; rfl) | exact c2.symm
     have hr1 : (((Wh.put wh t).slots) : List (List DTimer)) = (Wh.add wh t).slots := by
      first | (rw [c1]; done) | (rw [c1]; rfl) | exact c2.symm
     have hr2 : (0 : Int) = (Wh.addErr wh t) := by
      first | (rw [c1]; done) | (rw [c1]; rfl) | exact c2.symm
     refine q_endM (p := (a10, (⟨c11.n, R14, K15⟩ : NC))) S16 (rt2 rfl (r_cell (i := 2) rfl rfl sh50 rfl) (r_tmp rfl)) (i := 5) rfl ?_ ?_ ?_
     ·exact (by have hcc := congr (congr (congrArg (fun (y0 : Int) (y1 : List (List DTimer)) (y2 : Int) => (.tuple #[.agg #[.int .i64 y0, .slice a10 y1.length (⟨c11.n, R14, K15⟩ : NC).n], .int .i64 y2] : Value)) hr0) hr1) hr2; exact hcc)
     ·exact fun w hw => hw.above (i := 5) (j := 0) (by decide) rfl rfl
     ·intro w hw; exact Eq.mp (congrArg (fun y => SlON tTimer _ w a10 (⟨c11.n, R14, K15⟩ : NC) y) hr1) ((hw.at (i := 0) rfl).here)

set_option maxHeartbeats 8000000 in
set_option maxRecDepth 100000 in
theorem wcancel_ok (wh : DWheel) (awh_0 : Option Addr) (cwh_0 : NC) (id : Int) : FnM Try.prog 31 [.agg #[Vi wh.now, .slice awh_0 wh.slots.length cwh_0.n], Vi id] (fun w => RdN tTimer w awh_0 cwh_0 wh.slots) (Option Addr × NC) (fun p => .tuple #[.agg #[Vi ((Wh.cancel wh id).now), .slice p.1 ((Wh.cancel wh id).slots).length p.2.n], Vi (Wh.cancelErr wh id)]) (fun p S w => SlON tTimer S w p.1 p.2 ((Wh.cancel wh id).slots)) := by
 refine fnM (nt := 43) (F0 := [(0, .agg #[Vi wh.now, .slice awh_0 wh.slots.length cwh_0.n]), (1, Vi id)]) Try.func31 rfl Try.ntmps31 rfl rfl (fun w0 hpre => ?_)
 have hwh_0 := hpre
 have hlhwh_0 := hwh_0.2.1
 refine c_seq (c_region ?_)
 refine o_box (v := .agg #[Vi wh.now, .slice awh_0 wh.slots.length cwh_0.n]) rfl rfl (fun B1 => ?_)
 refine o_alloc ze50 rfl (fun B2 => ?_)
 refine o_as rfl rfl ?_
 refine o_nil (q_then (c_seq (c_seq (c_region ?_))))
 refine o_p (p_load_agg (i := 1) (vs := [Vi wh.now, .slice awh_0 wh.slots.length cwh_0.n]) rfl rfl sh50 rfl rfl) ?_
 refine o_call0 (v := Vi (Wh.check wh)) rfl (wcheck_ok wh awh_0 cwh_0) hf41 (fun w hw => (rd_baseN (i := 2) rfl hwh_0) w hw) rfl ?_
 refine o_as rfl rfl ?_
 refine o_nil (q_then (c_seq (c_region ?_)))
 refine o_mv rfl rfl ?_
 refine o_p (p_ne rfl rfl) ?_
 refine o_nil (q_then ?_)
 refine c_cond rfl (fun hc3 => ?_) (fun hc3 => ?_)
 ·simp only [bne_iff_ne, ne_eq] at hc3
  have hch := hc3
  refine c_seq (c_region ?_)
  refine o_p (p_build (cells := [Vi 0, .slice none 0 0]) fp50 ze50 rfl rfl) ?_
  refine o_mv rfl rfl ?_
  refine o_storeN (i := 0) (vs := [Vi 0, .slice none 0 0]) (cs' := [Vi 0, .slice none 0 0]) rfl rfl rfl sz50 rfl rfl rfl rfl ?_
  refine o_as rfl rfl ?_
  refine o_nil (q_then (c_ret ?_))
  refine q_then_ret ?_
  obtain ⟨c1, c2⟩ : _ ∧ _ := by first | exact Wh.cn1 (w := wh) (id := id) (by omega) | exact Wh.cn2 (w := wh) (id := id) hch hfn | exact Wh.cn3 (w := wh) (id := id) hch hfn
  have hr0 : (0 : Int) = (Wh.cancel wh id).now := by
   first | (rw [c1]; done) | (rw [c1]; rfl) | exact c2.symm
  have hr1 : ([] : List (List DTimer)) = (Wh.cancel wh id).slots := by
   first | (rw [c1]; done) | (rw [c1]; rfl) | exact c2.symm
  have hr2 : ((Wh.check wh) : Int) = (Wh.cancelErr wh id) := by
   first | (rw [c1]; done) | (rw [c1]; rfl) | exact c2.symm
  refine q_endM (p := (none, nc0)) (fun _ => False) (rt2 rfl (r_cell (i := 0) rfl rfl sh50 rfl) (r_tmp rfl)) (i := 2) rfl ?_ ?_ ?_
  ·exact (by have hcc := congr (congr (congrArg (fun (y0 : Int) (y1 : List (List DTimer)) (y2 : Int) => (.tuple #[.agg #[.int .i64 y0, .slice none y1.length 0], .int .i64 y2] : Value)) hr0) hr1) hr2; exact hcc)
  ·intro w hw b hb; exact hb.elim
  ·intro w hw; exact Eq.mp (congrArg (fun y => SlON tTimer _ w none nc0 y) hr1) (SlON.nil tTimer w)
 ·simp only [bne_eq_false_iff_eq] at hc3
  have hch : Wh.check wh = 0 := by omega
  have hok := Wh.check_ok.1 hch
  have hrows := hok.rows
  have hnw := hok.now
  refine c_skip (q_then (c_seq (c_region ?_)))
  refine o_p (p_load_agg (i := 1) (vs := [Vi wh.now, .slice awh_0 wh.slots.length cwh_0.n]) rfl rfl sh50 rfl rfl) ?_
  refine o_mv rfl rfl ?_
  refine o_call0 (v := .tuple #[Vi ((Wh.find wh id).1), Vi ((Wh.find wh id).2.1), .bool ((Wh.find wh id).2.2)]) rfl (wfind_ok wh awh_0 cwh_0 id) hf67 (fun w hw => (rd_baseN (i := 2) rfl hwh_0) w hw) rfl ?_
  refine o_mv rfl rfl ?_
  refine o_ex rfl rfl rfl ?_
  refine o_ex rfl rfl rfl ?_
  refine o_ex rfl rfl rfl ?_
  refine o_as rfl rfl ?_
  refine o_as rfl rfl ?_
  refine o_as rfl rfl ?_
  refine o_nil (q_then (c_seq (c_seq (c_region ?_))))
  refine o_mv rfl rfl ?_
  refine o_p (p_not (b := ((Wh.find wh id).2.2)) rfl) ?_
  refine o_nil (q_then ?_)
  refine c_cond rfl (fun hc4 => ?_) (fun hc4 => ?_)
  ·simp only [Bool.not_eq_true'] at hc4
   have hfn : (Wh.find wh id).2.2 = false := by simpa using hc4
   refine c_seq (c_region ?_)
   refine o_p (p_build (cells := [Vi 0, .slice none 0 0]) fp50 ze50 rfl rfl) ?_
   refine o_storeN (i := 0) (vs := [Vi 0, .slice none 0 0]) (cs' := [Vi 0, .slice none 0 0]) rfl rfl rfl sz50 rfl rfl rfl rfl ?_
   refine o_as rfl rfl ?_
   refine o_nil (q_then (c_ret ?_))
   refine q_then_ret ?_
   obtain ⟨c1, c2⟩ : _ ∧ _ := by first | exact Wh.cn1 (w := wh) (id := id) (by omega) | exact Wh.cn2 (w := wh) (id := id) hch hfn | exact Wh.cn3 (w := wh) (id := id) hch hfn
   have hr0 : (0 : Int) = (Wh.cancel wh id).now := by
    first | (rw [c1]; done) | (rw [c1]; rfl) | exact c2.symm
   have hr1 : ([] : List (List DTimer)) = (Wh.cancel wh id).slots := by
    first | (rw [c1]; done) | (rw [c1]; rfl) | exact c2.symm
   have hr2 : (5 : Int) = (Wh.cancelErr wh id) := by
    first | (rw [c1]; done) | (rw [c1]; rfl) | exact c2.symm
   refine q_endM (p := (none, nc0)) (fun _ => False) (rt2 rfl (r_cell (i := 0) rfl rfl sh50 rfl) (r_tmp rfl)) (i := 2) rfl ?_ ?_ ?_
   ·exact (by have hcc := congr (congr (congrArg (fun (y0 : Int) (y1 : List (List DTimer)) (y2 : Int) => (.tuple #[.agg #[.int .i64 y0, .slice none y1.length 0], .int .i64 y2] : Value)) hr0) hr1) hr2; exact hcc)
   ·intro w hw b hb; exact hb.elim
   ·intro w hw; exact Eq.mp (congrArg (fun y => SlON tTimer _ w none nc0 y) hr1) (SlON.nil tTimer w)
  ·simp only [Bool.not_eq_false'] at hc4
   have hfn : (Wh.find wh id).2.2 = true := by simpa using hc4
   obtain ⟨hf1, hf2, hf3, hf4, hf5⟩ := Wh.find_at hfn
   have hrl := hrows.2 (Wh.find wh id).1.toNat
   refine c_skip (q_then (c_seq (c_region ?_)))
   refine o_p (p_load_agg (i := 1) (vs := [Vi wh.now, .slice awh_0 wh.slots.length cwh_0.n]) rfl rfl sh50 rfl rfl) ?_
   refine o_callM rfl (wown_ok wh awh_0 cwh_0 (by first | assumption | exact hok.rows)) hf69 (fun w hw => (rd_baseN (i := 2) rfl hwh_0) w hw) rfl (fun _ _ _ _ ha hA => SlON.agree ha hA) ?_
   rintro ⟨a7, c8⟩ S5
   refine o_know (fun w hw => own_lenN (i := 0) (T := tTimer) hw rfl) (fun hlr9 => ?_)
   refine o_alloc ze50 rfl (fun B10 => ?_)
   refine o_storeN (i := 0) (vs := [Vi wh.now, .slice a7 wh.slots.length c8.n]) (cs' := [Vi wh.now, .slice a7 wh.slots.length c8.n]) rfl rfl rfl sz50 rfl rfl rfl rfl ?_
   refine o_nil (q_then (c_seq ?_))
   refine c_held hmix [box B10 [Vi wh.now, .slice a7 wh.slots.length c8.n] 50, box B2 [Vi 0, .slice none 0 0] 50, box B1 [Vi wh.now, .slice awh_0 wh.slots.length cwh_0.n] 50, base w0] rfl rfl ?_
   refine h_tk (i := 0) (ls := #[T1,F0,F0,F0,F0,F0,F0,F0,F0,F0,F0,F0,F0,F0]) rfl (p_fieldAddr (j' := 1) rfl fo50_1 rfl) (dp (lj (lz (lj (lj (lj (ln))))))) ?_
   refine h_tk (i := 1) (ls := #[T1,T1,F0,F0,F0,F0,F0,F0,F0,F0,F0,F0,F0,F0]) rfl (p_load (i := 0) (v := .slice a7 wh.slots.length c8.n) rfl rfl sh48 rfl) (dp (lj (lz (lj (lj (lj (ln))))))) ?_
   refine h_tk (i := 2) (ls := #[T1,T1,T1,F0,F0,F0,F0,F0,F0,F0,F0,F0,F0,F0]) rfl (p_move rfl) (dp (lj (lz (lj (lj (lj (ln))))))) ?_
   refine h_tk (i := 3) (ls := #[T1,T1,T1,T1,F0,F0,F0,F0,F0,F0,F0,F0,F0,F0]) rfl (p_fieldAddr (j' := 1) rfl fo50_1 rfl) (dp (lj (lz (lj (lj (lj (ln))))))) ?_
   refine h_tk (i := 4) (ls := #[T1,T1,T1,T1,T1,F0,F0,F0,F0,F0,F0,F0,F0,F0]) rfl (p_load (i := 0) (v := .slice a7 wh.slots.length c8.n) rfl rfl sh48 rfl) (dp (lj (lz (lj (lj (lj (ln))))))) ?_
   refine h_tk (i := 5) (ls := #[T1,T1,T1,T1,T1,T1,F0,F0,F0,F0,F0,F0,F0,F0]) rfl (p_move rfl) (dp (lj (lz (lj (lj (lj (ln))))))) ?_
   refine h_tk (i := 8) (ls := #[T1,T1,T1,T1,T1,T1,F0,F0,T1,F0,F0,F0,F0,F0]) rfl (p_move rfl) (dp (lj (lz (lj (lj (lj (ln))))))) ?_
   refine h_tk (i := 9) (ls := #[T1,T1,T1,T1,T1,T1,F0,F0,T1,T1,F0,F0,F0,F0]) rfl (p_move rfl) (dp (lj (lz (lj (lj (lj (ln))))))) ?_
   refine h_tk (i := 10) (ls := #[T1,T1,T1,T1,T1,T1,F0,F0,T1,T1,T1,F0,F0,F0]) rfl (p_addb rfl rfl (by omega)) (dp (lj (lz (lj (lj (lj (ln))))))) ?_
   refine h_one (i := 6) (ls := #[T1,T1,T1,T1,T1,T1,T1,F0,T1,T1,T1,F0,F0,F0]) (by kernel_rfl) rfl rfl ?_
   refine o_p (p_indexAddrN (T := tTimer) (c := c8) (LL := wh.slots) (i := ((Wh.find wh id).1)) rfl rfl (rd_ownN (i := 1) rfl) Try.underlying48 sz57 (by first | omega | decide) (by first | omega | decide)) ?_
   refine o_nil ?_
   refine h_next (dp (lj (lz (lj (lj (lj (ln))))))) ?_
   refine h_one (i := 7) (ls := #[T1,T1,T1,T1,T1,T1,T1,T1,T1,T1,T1,F0,F0,F0]) (by kernel_rfl) rfl rfl ?_
   refine o_p (p_loadN (T := tTimer) (c := c8) (LL := wh.slots) (i := ((Wh.find wh id).1).toNat) rfl (rd_ownN (i := 1) rfl) (by first | assumption | omega | decide) sh57) ?_
   refine o_nil ?_
   refine h_next (dp (lj (lz (lj (lj (lj (ln))))))) ?_
   refine h_one (i := 11) (ls := #[T1,T1,T1,T1,T1,T1,T1,T1,T1,T1,T1,T1,F0,F0]) (by kernel_rfl) rfl rfl ?_
   refine o_pick (H' := [ownN tTimer S5 a7 c8 wh.slots, box B10 [Vi wh.now, .slice a7 wh.slots.length c8.n] 50, box B2 [Vi 0, .slice none 0 0] 50, box B1 [Vi wh.now, .slice awh_0 wh.slots.length cwh_0.n] 50, base w0]) [1, 0, 2, 3, 4] (by decide) rfl ?_
   refine o_outN (k := ((Wh.find wh id).1).toNat) (by first | assumption | omega) (fun S11_11 S11_11_1 => ?_)
   refine o_callX (pre := [own tTimer S11_11 (c8.ra (((Wh.find wh id).1).toNat)) (c8.rc (((Wh.find wh id).1).toNat)) (wh.slots.getD (((Wh.find wh id).1).toNat) [])]) (R := [ownX tTimer S11_11_1 a7 c8 wh.slots (fun i => i = (((Wh.find wh id).1).toNat)), box B10 [Vi wh.now, .slice a7 wh.slots.length c8.n] 50, box B2 [Vi 0, .slice none 0 0] 50, box B1 [Vi wh.now, .slice awh_0 wh.slots.length cwh_0.n] 50, base w0]) rfl (delete_Timer_ok (wh.slots.getD (((Wh.find wh id).1).toNat) []) (c8.ra (((Wh.find wh id).1).toNat)) (c8.rc (((Wh.find wh id).1).toNat)) S11_11 ((Wh.find wh id).2.1) (((Wh.find wh id).2.1) + 1) (by omega)) hf71 rfl (fun _ _ => trivial) rfl ?_
   rintro ⟨a11_11, c11_11, S11_11_2⟩
   refine o_asH (H' := [own tTimer S11_11_2 a11_11 c11_11 ((wh.slots.getD (((Wh.find wh id).1).toNat) []).take ((Wh.find wh id).2.1).toNat ++ (wh.slots.getD (((Wh.find wh id).1).toNat) []).drop (((Wh.find wh id).2.1) + 1).toNat), ownX tTimer S11_11_1 a7 c8 wh.slots (fun i => i = (((Wh.find wh id).1).toNat)), box B10 [Vi wh.now, .slice a7 wh.slots.length c8.n] 50, box B2 [Vi 0, .slice none 0 0] 50, box B1 [Vi wh.now, .slice awh_0 wh.slots.length cwh_0.n] 50, base w0]) rfl ?_
   refine o_nil ?_
   refine h_next (dp (lz (lz (lj (lj (lj (lj (ln)))))))) ?_
   refine h_one (i := 12) (ls := #[T1,T1,T1,T1,T1,T1,T1,T1,T1,T1,T1,T1,T1,F0]) (by kernel_rfl) rfl rfl ?_
   refine o_p (p_indexAddrX (T := tTimer) (c := c8) (LL := wh.slots) (i := ((Wh.find wh id).1)) (j := 1) rfl rfl rfl Try.underlying48 sz57 (by first | omega | decide) (by first | omega | decide)) ?_
   refine o_nil ?_
   refine h_next (dp (lz (lz (lj (lj (lj (lj (ln)))))))) ?_
   refine h_one (i := 13) (ls := #[T1,T1,T1,T1,T1,T1,T1,T1,T1,T1,T1,T1,T1,T1]) (by kernel_rfl) rfl rfl ?_
   refine o_storeRow (k := ((Wh.find wh id).1).toNat) (T := tTimer) rfl rfl (by first | assumption | omega | (simp only [List.length_set]; omega)) sz57 (Sub.refl _) (fun S11_13 => ?_)
   refine o_nil ?_
   refine h_next (dp (lz (lj (lj (lj (lj (ln))))))) ?_
   refine h_done (by kernel_rfl) ?_
   refine q_cast (F' := [(4, .pointer (some ⟨B2, 0, none⟩)), (10, .pointer (some ⟨B10, 0, none⟩))]) (H := [ownN tTimer S11_13 a7 (c8.put (((Wh.find wh id).1).toNat) a11_11 c11_11) (wh.slots.set (((Wh.find wh id).1).toNat) ((wh.slots.getD (((Wh.find wh id).1).toNat) []).take ((Wh.find wh id).2.1).toNat ++ (wh.slots.getD (((Wh.find wh id).1).toNat) []).drop (((Wh.find wh id).2.1) + 1).toNat)), box B10 [Vi wh.now, .slice a7 wh.slots.length c8.n] 50, box B2 [Vi 0, .slice none 0 0] 50, box B1 [Vi wh.now, .slice awh_0 wh.slots.length cwh_0.n] 50, base w0]) (H' := [ownN tTimer S11_13 a7 (c8.put (((Wh.find wh id).1).toNat) a11_11 c11_11) (wh.slots.set (((Wh.find wh id).1).toNat) ((wh.slots.getD (((Wh.find wh id).1).toNat) []).take ((Wh.find wh id).2.1).toNat ++ (wh.slots.getD (((Wh.find wh id).1).toNat) []).drop (((Wh.find wh id).2.1) + 1).toNat)), box B10 [Vi wh.now, .slice a7 (wh.slots.set (((Wh.find wh id).1).toNat) ((wh.slots.getD (((Wh.find wh id).1).toNat) []).take ((Wh.find wh id).2.1).toNat ++ (wh.slots.getD (((Wh.find wh id).1).toNat) []).drop (((Wh.find wh id).2.1) + 1).toNat)).length (c8.put (((Wh.find wh id).1).toNat) a11_11 c11_11).n] 50, box B2 [Vi 0, .slice none 0 0] 50, box B1 [Vi wh.now, .slice awh_0 wh.slots.length cwh_0.n] 50, base w0]) (sr (sr (Sub.nil _))) (by simp only [List.length_set, List.length_reverse, NC.put_n]) ?_
   refine q_then (c_seq (c_region ?_))
   refine o_p (p_load_agg (i := 1) (vs := [Vi wh.now, .slice a7 (wh.slots.set (((Wh.find wh id).1).toNat) ((wh.slots.getD (((Wh.find wh id).1).toNat) []).take ((Wh.find wh id).2.1).toNat ++ (wh.slots.getD (((Wh.find wh id).1).toNat) []).drop (((Wh.find wh id).2.1) + 1).toNat)).length (c8.put (((Wh.find wh id).1).toNat) a11_11 c11_11).n]) rfl rfl sh50 rfl rfl) ?_
   refine o_storeN (i := 2) (vs := [Vi wh.now, .slice a7 (wh.slots.set (((Wh.find wh id).1).toNat) ((wh.slots.getD (((Wh.find wh id).1).toNat) []).take ((Wh.find wh id).2.1).toNat ++ (wh.slots.getD (((Wh.find wh id).1).toNat) []).drop (((Wh.find wh id).2.1) + 1).toNat)).length (c8.put (((Wh.find wh id).1).toNat) a11_11 c11_11).n]) (cs' := [Vi wh.now, .slice a7 (wh.slots.set (((Wh.find wh id).1).toNat) ((wh.slots.getD (((Wh.find wh id).1).toNat) []).take ((Wh.find wh id).2.1).toNat ++ (wh.slots.getD (((Wh.find wh id).1).toNat) []).drop (((Wh.find wh id).2.1) + 1).toNat)).length (c8.put (((Wh.find wh id).1).toNat) a11_11 c11_11).n]) rfl rfl rfl sz50 rfl rfl rfl rfl ?_
   refine o_as rfl rfl ?_
   refine o_nil (q_then (c_ret ?_))
   obtain ⟨c1, c2⟩ : _ ∧ _ := by first | exact Wh.cn1 (w := wh) (id := id) (by omega) | exact Wh.cn2 (w := wh) (id := id) hch hfn | exact Wh.cn3 (w := wh) (id := id) hch hfn
   have hr0 : (wh.now : Int) = (Wh.cancel wh id).now := by
    first | (rw [c1]; done) | (rw [c1]; rfl) | exact c2.symm
   have hr1 : ((wh.slots.set (((Wh.find wh id).1).toNat) ((wh.slots.getD (((Wh.find wh id).1).toNat) []).take ((Wh.find wh id).2.1).toNat ++ (wh.slots.getD (((Wh.find wh id).1).toNat) []).drop (((Wh.find wh id).2.1) + 1).toNat)) : List (List DTimer)) = (Wh.cancel wh id).slots := by
    first | (rw [c1]; done) | (rw [c1]; rfl) | exact c2.symm
   have hr2 : (0 : Int) = (Wh.cancelErr wh id) := by
    first | (rw [c1]; done) | (rw [c1]; rfl) | exact c2.symm
   refine q_endM (p := (a7, (c8.put (((Wh.find wh id).1).toNat) a11_11 c11_11))) S11_13 (rt2 rfl (r_cell (i := 2) rfl rfl sh50 rfl) (r_tmp rfl)) (i := 4) rfl ?_ ?_ ?_
   ·exact (by have hcc := congr (congr (congrArg (fun (y0 : Int) (y1 : List (List DTimer)) (y2 : Int) => (.tuple #[.agg #[.int .i64 y0, .slice a7 y1.length (c8.put (((Wh.find wh id).1).toNat) a11_11 c11_11).n], .int .i64 y2] : Value)) hr0) hr1) hr2; exact hcc)
   ·exact fun w hw => hw.above (i := 4) (j := 0) (by decide) rfl rfl
   ·intro w hw; exact Eq.mp (congrArg (fun y => SlON tTimer _ w a7 (c8.put (((Wh.find wh id).1).toNat) a11_11 c11_11) y) hr1) ((hw.at (i := 0) rfl).here)
end Go.Proofs.Ytnmbkopnopaigaa
