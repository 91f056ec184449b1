/- The walks, printed by a program from the translation and a specification. -/
import Derived.Test.YtfncgfcehkalnaaGreatCzF
import Derived.Test.YtfncgfcehkalnaaGreatCpLaw3M2
import Derived.Test.YtfncgfcehkalnaaGreatCzW9
import Derived.Test.YtfncgfcehkalnaaGreatLfLaw3M2
namespace Go.Proofs.YtfncgfcehkalnaaGreat
open Go.Sx Go.RowKit
set_option maxHeartbeats 8000000 in
set_option maxRecDepth 100000 in
theorem rfleast_ok (l : List DUse) (al : Option Addr) (cl : Nat) (hy1 : 0 < l.length) : Fn0 Tryz.prog 69 [.slice al l.length cl] (fun w => Rd tUse w al cl l) (Vi ((l.getD (Lfu.least l) default).key)) := by
 refine fn0 (nt := 44) (F0 := [(0, .slice al l.length cl)]) Tryz.func69 rfl Tryz.ntmps69 rfl rfl (fun w0 hpre => ?_)
 have hl := hpre
 have hlhl := hl.2.1
 refine c_seq (c_region ?_)
 refine o_as rfl rfl ?_
 refine o_nil (q_then (c_seq (c_seq (c_region ?_))))
 refine o_mv rfl rfl ?_
 refine o_p (p_len_slice rfl rfl Tryz.underlying52) ?_
 refine o_p (p_subb rfl rfl (by omega)) ?_
 refine o_as rfl rfl ?_
 refine o_nil (q_then (c_block ?_))
 refine c_loop (St := Int)
  (fun i => [(0, .slice al l.length cl), (3, Vi i)])
  (fun i => [base w0])
  (fun i => Lfu.EInv l i)
  (fun i => i.toNat)
  ((l.length : Int) - 1) ?_ (sr (sr (Sub.nil _))) (fun _ hw => hw) ?_
 ·exact Lfu.EInv.start (by omega)
 rintro i hI K hK1
 have hib := hI.bd
 have hE := hI
 show SC _ _ Tryz.prog 44 w0 _ _ [(0, .slice al l.length cl), (3, Vi i)] [base w0]
 refine c_seq (c_seq (c_region ?_))
 refine o_mv rfl rfl ?_
 refine o_p (p_gt rfl rfl) ?_
 refine o_nil (q_then ?_)
 refine c_cond rfl (fun hc2 => ?_) (fun hc2 => ?_)
 ·simp only [decide_eq_true_eq] at hc2
  refine c_skip (q_then (c_seq (c_block (c_seq (c_region ?_)))))
  refine o_as rfl rfl ?_
  refine o_nil (q_then (c_seq (c_seq (c_region ?_))))
  refine o_as rfl rfl ?_
  refine o_nil (q_then (c_block ?_))
  refine c_loop (St := Bool × Nat)
   (fun ⟨less_, k⟩ => [(0, .slice al l.length cl), (3, Vi i), (4, .bool less_), (5, Vi (k : Int))])
   (fun ⟨less_, k⟩ => [base w0])
   (fun ⟨less_, k⟩ => Lfu.DInv l i less_ k)
   (fun ⟨less_, k⟩ => l.length - k)
   (false, 0) ?_ (sr (sr (sr (sr (Sub.nil _))))) (fun _ hw => hw) ?_
  ·exact Lfu.DInv.start l i
  rintro ⟨less_, k⟩ hI K hK3
  have hkb := hI.le
  show SC _ _ Tryz.prog 44 w0 _ _ [(0, .slice al l.length cl), (3, Vi i), (4, .bool less_), (5, Vi (k : Int))] [base w0]
  refine c_seq (c_seq (c_region ?_))
  refine o_mv rfl rfl ?_
  refine o_mv rfl rfl ?_
  refine o_p (p_len_slice rfl rfl Tryz.underlying52) ?_
  refine o_p (p_lt rfl rfl) ?_
  refine o_nil (q_then ?_)
  refine c_cond rfl (fun hc4 => ?_) (fun hc4 => ?_)
  ·simp only [decide_eq_true_eq] at hc4
   refine c_skip (q_then (c_seq (c_block ?_)))
   refine c_draw hmix (by kernel_rfl) ?_
   refine w_mv rfl rfl ?_
   refine w_mv rfl rfl ?_
   refine w_or (p := 32) 12 (decide ((l[k]).count < (l[i.toNat]).count)) ?_ ?_ ?_
   ·intro hb5 hk
    skip
    refine w_unguard 20 rfl rfl ?_
    refine w_mv rfl rfl ?_
    refine w_unguard 20 rfl rfl ?_
    refine w_mv rfl rfl ?_
    refine w_unguard 20 rfl rfl ?_
    refine w_p (p_indexAddr (L := l) (T := tUse) (i := (k : Int)) rfl rfl (rd_base (i := 0) rfl hl) Tryz.underlying52 sz118 (by omega) (by omega)) ?_
    refine w_unguard 20 rfl rfl ?_
    refine w_p (p_fieldAddrE rfl fo118_1) ?_
    refine w_unguard 20 rfl rfl ?_
    refine w_p (p_loadF (i := k) (j := 1) (T := tUse) (L := l) (v := Vi ((l[k]).count)) rfl (rd_base (i := 0) rfl hl) (by first | assumption | omega) sh3 rfl) ?_
    refine w_unguard 20 rfl rfl ?_
    refine w_mv rfl rfl ?_
    refine w_unguard 20 rfl rfl ?_
    refine w_mv rfl rfl ?_
    refine w_unguard 20 rfl rfl ?_
    refine w_p (p_indexAddr (L := l) (T := tUse) (i := i) rfl rfl (rd_base (i := 0) rfl hl) Tryz.underlying52 sz118 (by omega) (by omega)) ?_
    refine w_unguard 20 rfl rfl ?_
    refine w_p (p_fieldAddrE rfl fo118_1) ?_
    refine w_unguard 20 rfl rfl ?_
    refine w_p (p_loadF (i := i.toNat) (j := 1) (T := tUse) (L := l) (v := Vi ((l[i.toNat]).count)) rfl (rd_base (i := 0) rfl hl) (by first | assumption | omega) sh3 rfl) ?_
    refine w_unguard 20 rfl rfl ?_
    refine w_p (p_lt rfl rfl) ?_
    refine w_pf rfl rfl rfl ?_
    exact w_sub (sr (Sub.skip rfl (Sub.skip rfl (Sub.skip rfl (Sub.skip rfl (Sub.skip rfl (Sub.skip rfl (Sub.skip rfl (Sub.skip rfl (Sub.skip rfl (Sub.skip rfl (Sub.skip rfl (Sub.skip rfl (Sub.skip rfl (Sub.refl _))))))))))))))) hk
   ·intro hb5 hk
    refine w_guard_no rfl 20 rfl rfl rfl rfl rfl ?_
    refine w_guard_no rfl 20 rfl rfl rfl rfl rfl ?_
    refine w_guard_no rfl 20 rfl rfl rfl rfl rfl ?_
    refine w_guard_no rfl 20 rfl rfl rfl rfl rfl ?_
    refine w_guard_no rfl 20 rfl rfl rfl rfl rfl ?_
    refine w_guard_no rfl 20 rfl rfl rfl rfl rfl ?_
    refine w_guard_no rfl 20 rfl rfl rfl rfl rfl ?_
    refine w_guard_no rfl 20 rfl rfl rfl rfl rfl ?_
    refine w_guard_no rfl 20 rfl rfl rfl rfl rfl ?_
    refine w_guard_no rfl 20 rfl rfl rfl rfl rfl ?_
    refine w_guard_no rfl 20 rfl rfl rfl rfl rfl ?_
    refine w_pt rfl rfl rfl ?_
    exact w_sub (sr (Sub.skip rfl (Sub.skip rfl (Sub.skip rfl (Sub.skip rfl (Sub.skip rfl (Sub.skip rfl (Sub.skip rfl (Sub.skip rfl (Sub.skip rfl (Sub.skip rfl (Sub.skip rfl (Sub.skip rfl (Sub.skip rfl (Sub.refl _))))))))))))))) hk
   refine w_p (p_assign rfl) ?_
   refine w_nil ?_
   refine q_block_normal (q_then ?_)
   refine c_region ?_
   refine o_mv rfl rfl ?_
   refine o_p (p_addb rfl rfl (by omega)) ?_
   refine o_as rfl rfl ?_
   refine o_nil ?_
   refine q_round hK3 ((less_ || decide ((l[k]).count < (l[i.toNat]).count)), k + 1) ?_ ?_ ?_ ?_
   ·clear hK3
    exact hI.next (by omega) (by omega)
   ·(try dsimp only); omega
   ·exact sr (sr (sr (sr (Sub.nil _))))
   ·exact pk [0]
  ·simp only [decide_eq_false_iff_not, Int.not_lt] at hc4
   refine c_exit ?_
   refine q_then_exit (q_then_exit (q_block_exit (q_then ?_)))
   refine c_seq (c_region ?_)
   refine o_mv rfl rfl ?_
   refine o_p (p_not (b := less_) rfl) ?_
   refine o_nil (q_then ?_)
   refine c_cond rfl (fun hc6 => ?_) (fun hc6 => ?_)
   ·simp only [Bool.not_eq_true'] at hc6
    refine c_seq (c_region ?_)
    refine o_mv rfl rfl ?_
    refine o_mv rfl rfl ?_
    refine o_p (p_indexAddr (L := l) (T := tUse) (i := i) rfl rfl (rd_base (i := 0) rfl hl) Tryz.underlying52 sz118 (by omega) (by omega)) ?_
    refine o_p (p_fieldAddrE rfl fo118_0) ?_
    refine o_p (p_loadF (i := i.toNat) (j := 0) (T := tUse) (L := l) (v := Vi ((l[i.toNat]).key)) rfl (rd_base (i := 0) rfl hl) (by first | assumption | omega) sh3 rfl) ?_
    refine o_as rfl rfl ?_
    refine o_nil (q_then (c_ret ?_))
    refine q_block_ret (q_then_ret (q_then_ret (q_block_ret (q_then_ret ?_))))
    have hr0 : ((l[i.toNat]).key : Int) = ((l.getD (Lfu.least l) default).key) := by
     first | exact hE.last hI (by omega) (by assumption) (by omega) | exact hI.zero (by omega) (by omega)
    refine q_end0 (v := Vi ((l[i.toNat]).key)) (rt1 rfl (r_tmp rfl)) (i := 0) rfl ?_
    exact (by have hcc := congrArg (fun (y0 : Int) => (.int .i64 y0 : Value)) hr0; exact hcc)
   ·simp only [Bool.not_eq_false'] at hc6
    refine c_skip ?_
    refine q_block_normal (q_then ?_)
    refine c_region ?_
    refine o_mv rfl rfl ?_
    refine o_p (p_subb rfl rfl (by omega)) ?_
    refine o_as rfl rfl ?_
    refine o_nil ?_
    refine q_round hK1 (i - 1) ?_ ?_ ?_ ?_
    ·clear hK1
     exact hE.next hI (by omega) (by assumption) (by omega)
    ·(try dsimp only); omega
    ·exact sr (sr (Sub.nil _))
    ·exact pk [0]
 ·simp only [decide_eq_false_iff_not, Int.not_lt] at hc2
  refine c_exit ?_
  refine q_then_exit (q_then_exit (q_block_exit (q_then ?_)))
  refine c_seq (c_region ?_)
  refine o_mv rfl rfl ?_
  refine o_p (p_indexAddr (L := l) (T := tUse) (i := 0) rfl rfl (rd_base (i := 0) rfl hl) Tryz.underlying52 sz118 (by omega) (by omega)) ?_
  refine o_p (p_fieldAddrE rfl fo118_0) ?_
  refine o_p (p_loadF (i := 0) (j := 0) (T := tUse) (L := l) (v := Vi ((l[0]).key)) rfl (rd_base (i := 0) rfl hl) (by first | assumption | omega) sh3 rfl) ?_
  refine o_as rfl rfl ?_
  refine o_nil (q_then (c_ret ?_))
  have hr0 : ((l[0]).key : Int) = ((l.getD (Lfu.least l) default).key) := by
   first | exact hE.last hI (by omega) (by assumption) (by omega) | exact hI.zero (by omega) (by omega)
  refine q_end0 (v := Vi ((l[0]).key)) (rt1 rfl (r_tmp rfl)) (i := 0) rfl ?_
  exact (by have hcc := congrArg (fun (y0 : Int) => (.int .i64 y0 : Value)) hr0; exact hcc)

set_option maxHeartbeats 8000000 in
set_option maxRecDepth 100000 in
theorem rftouch_ok (u : DUses) (au_0 : Option Addr) (cu_0 : Nat) (key : Int) (hy1 : Lfu.Ok u) : FnM Tryz.prog 44 [.agg #[Vi u.room, .slice au_0 u.list.length cu_0], Vi key] (fun w => Rd tUse w au_0 cu_0 u.list) (Option Addr × Nat) (fun p => .tuple #[.agg #[Vi (((Lfu.touch u key).1).room), .slice p.1 (((Lfu.touch u key).1).list).length p.2], .bool ((Lfu.touch u key).2.1), Vi ((Lfu.touch u key).2.2)]) (fun p S w => SlO tUse S w p.1 p.2 (((Lfu.touch u key).1).list)) := by
 refine fnM (nt := 96) (F0 := [(0, .agg #[Vi u.room, .slice au_0 u.list.length cu_0]), (1, Vi key)]) Tryz.func44 rfl Tryz.ntmps44 rfl rfl (fun w0 hpre => ?_)
 have hu_0 := hpre
 have hlhu_0 := hu_0.2.1
 have hroom := hy1.room
 have hlen := hy1.len
 refine c_seq (c_region ?_)
 refine o_box (v := .agg #[Vi u.room, .slice au_0 u.list.length cu_0]) rfl rfl (fun B1 => ?_)
 refine o_alloc ze54 rfl (fun B2 => ?_)
 refine o_as rfl rfl ?_
 refine o_as rfl rfl ?_
 refine o_nil (q_then (c_seq (c_region ?_)))
 refine o_as rfl rfl ?_
 refine o_as rfl rfl ?_
 refine o_as rfl rfl ?_
 refine o_nil (q_then (c_seq (c_seq (c_region ?_))))
 refine o_as rfl rfl ?_
 refine o_nil (q_then (c_block ?_))
 refine c_loop (St := Int × Bool × Nat)
  (fun ⟨count, hit, i⟩ => [(1, Vi key), (2, .pointer (some ⟨B1, 0, none⟩)), (4, .pointer (some ⟨B2, 0, none⟩)), (7, Vi count), (8, Vi (-1)), (9, .bool hit), (10, Vi (i : Int))])
  (fun ⟨count, hit, i⟩ => [box B2 [Vi 0, .slice none 0 0] 54, box B1 [Vi u.room, .slice au_0 u.list.length cu_0] 54, base w0])
  (fun ⟨count, hit, i⟩ => Lfu.AInv u.list key count hit i)
  (fun ⟨count, hit, i⟩ => u.list.length - i)
  (0, false, 0) ?_ (sr (sr (sr (sr (sr (sr (sr (Sub.nil _)))))))) (fun _ hw => hw) ?_
 ·exact Lfu.AInv.start _ _
 rintro ⟨count, hit, i⟩ hI K hK3
 have hle := hI.le
 show SC _ _ Tryz.prog 96 w0 _ _ [(1, Vi key), (2, .pointer (some ⟨B1, 0, none⟩)), (4, .pointer (some ⟨B2, 0, none⟩)), (7, Vi count), (8, Vi (-1)), (9, .bool hit), (10, Vi (i : Int))] [box B2 [Vi 0, .slice none 0 0] 54, box B1 [Vi u.room, .slice au_0 u.list.length cu_0] 54, base w0]
 refine c_seq (c_seq (c_region ?_))
 refine o_mv rfl rfl ?_
 refine o_p (p_fieldAddr (j' := 1) rfl fo54_1 rfl) ?_
 refine o_p (p_load (i := 1) (v := .slice au_0 u.list.length cu_0) rfl rfl sh52 rfl) ?_
 refine o_p (p_len_slice rfl rfl Tryz.underlying52) ?_
 refine o_p (p_lt rfl rfl) ?_
 refine o_nil (q_then ?_)
 refine c_cond rfl (fun hc4 => ?_) (fun hc4 => ?_)
 ·simp only [decide_eq_true_eq] at hc4
  refine c_skip (q_then (c_seq (c_block (c_seq (c_region ?_)))))
  refine o_p (p_fieldAddr (j' := 1) rfl fo54_1 rfl) ?_
  refine o_p (p_load (i := 1) (v := .slice au_0 u.list.length cu_0) rfl rfl sh52 rfl) ?_
  refine o_mv rfl rfl ?_
  refine o_p (p_indexAddr (L := u.list) (T := tUse) (i := (i : Int)) rfl rfl (rd_base (i := 2) rfl hu_0) Tryz.underlying52 sz118 (by omega) (by omega)) ?_
  refine o_p (p_fieldAddrE rfl fo118_0) ?_
  refine o_p (p_loadF (i := i) (j := 0) (T := tUse) (L := u.list) (v := Vi ((u.list[i]).key)) rfl (rd_base (i := 2) rfl hu_0) (by first | assumption | omega) sh3 rfl) ?_
  refine o_mv rfl rfl ?_
  refine o_p (p_eq rfl rfl) ?_
  refine o_nil (q_then ?_)
  refine c_cond rfl (fun hc5 => ?_) (fun hc5 => ?_)
  ·simp only [beq_iff_eq] at hc5
   refine c_region ?_
   refine o_p (p_fieldAddr (j' := 1) rfl fo54_1 rfl) ?_
   refine o_p (p_load (i := 1) (v := .slice au_0 u.list.length cu_0) rfl rfl sh52 rfl) ?_
   refine o_mv rfl rfl ?_
   refine o_p (p_indexAddr (L := u.list) (T := tUse) (i := (i : Int)) rfl rfl (rd_base (i := 2) rfl hu_0) Tryz.underlying52 sz118 (by omega) (by omega)) ?_
   refine o_p (p_fieldAddrE rfl fo118_1) ?_
   refine o_p (p_loadF (i := i) (j := 1) (T := tUse) (L := u.list) (v := Vi ((u.list[i]).count)) rfl (rd_base (i := 2) rfl hu_0) (by first | assumption | omega) sh3 rfl) ?_
   refine o_as rfl rfl ?_
   refine o_as rfl rfl ?_
   refine o_nil ?_
   refine q_block_normal (q_then ?_)
   refine c_region ?_
   refine o_mv rfl rfl ?_
   refine o_p (p_addb rfl rfl (by omega)) ?_
   refine o_as rfl rfl ?_
   refine o_nil ?_
   refine q_round hK3 ((u.list[i]).count, true, i + 1) ?_ ?_ ?_ ?_
   ·clear hK3
    first | exact hI.found (by omega) (by assumption) | exact hI.skip (by omega) (by assumption)
   ·(try dsimp only); omega
   ·exact sr (sr (sr (sr (sr (sr (sr (Sub.nil _)))))))
   ·exact pk [0, 1, 2]
  ·simp only [beq_eq_false_iff_ne, ne_eq] at hc5
   refine c_skip ?_
   refine q_block_normal (q_then ?_)
   refine c_region ?_
   refine o_mv rfl rfl ?_
   refine o_p (p_addb rfl rfl (by omega)) ?_
   refine o_as rfl rfl ?_
   refine o_nil ?_
   refine q_round hK3 (count, hit, i + 1) ?_ ?_ ?_ ?_
   ·clear hK3
    first | exact hI.found (by omega) (by assumption) | exact hI.skip (by omega) (by assumption)
   ·(try dsimp only); omega
   ·exact sr (sr (sr (sr (sr (sr (sr (Sub.nil _)))))))
   ·exact pk [0, 1, 2]
 ·simp only [decide_eq_false_iff_not, Int.not_lt] at hc4
  refine c_exit ?_
  refine q_then_exit (q_then_exit (q_block_exit (q_then ?_)))
  refine c_seq (c_seq (c_region ?_))
  refine o_mv rfl rfl ?_
  refine o_p (p_not (b := hit) rfl) ?_
  refine o_mv rfl rfl ?_
  refine o_and (p := 43) 7 ((u.list.length : Int) == u.room) ?_ ?_ ?_
  ·intro hb6 hk
   simp only [Bool.not_eq_true'] at hb6
   refine o_unguard 36 rfl rfl ?_
   refine o_p (p_fieldAddr (j' := 1) rfl fo54_1 rfl) ?_
   refine o_unguard 36 rfl rfl ?_
   refine o_p (p_load (i := 1) (v := .slice au_0 u.list.length cu_0) rfl rfl sh52 rfl) ?_
   refine o_unguard 36 rfl rfl ?_
   refine o_p (p_len_slice rfl rfl Tryz.underlying52) ?_
   refine o_unguard 36 rfl rfl ?_
   refine o_p (p_fieldAddr (j' := 0) rfl fo54_0 rfl) ?_
   refine o_unguard 36 rfl rfl ?_
   refine o_p (p_load (i := 1) (v := Vi u.room) rfl rfl sh3 rfl) ?_
   refine o_unguard 36 rfl rfl ?_
   refine o_p (p_eq rfl rfl) ?_
   refine o_pt rfl rfl rfl ?_
   exact o_sub (sr (Sub.skip rfl (Sub.skip rfl (Sub.skip rfl (Sub.skip rfl (Sub.skip rfl (Sub.skip rfl (Sub.skip rfl (Sub.skip rfl (Sub.refl _)))))))))) hk
  ·intro hb6 hk
   refine o_guard_no rfl 36 rfl rfl rfl rfl rfl ?_
   refine o_guard_no rfl 36 rfl rfl rfl rfl rfl ?_
   refine o_guard_no rfl 36 rfl rfl rfl rfl rfl ?_
   refine o_guard_no rfl 36 rfl rfl rfl rfl rfl ?_
   refine o_guard_no rfl 36 rfl rfl rfl rfl rfl ?_
   refine o_guard_no rfl 36 rfl rfl rfl rfl rfl ?_
   refine o_pf rfl rfl rfl ?_
   exact o_sub (sr (Sub.skip rfl (Sub.skip rfl (Sub.skip rfl (Sub.skip rfl (Sub.skip rfl (Sub.skip rfl (Sub.skip rfl (Sub.skip rfl (Sub.refl _)))))))))) hk
  refine o_nil (q_then ?_)
  refine c_cond rfl (fun hc7 => ?_) (fun hc7 => ?_)
  ·simp only [Bool.and_eq_true, Bool.not_eq_true', beq_iff_eq] at hc7
   have hA := hI
   have hcb := Lfu.ref_bd hA (by omega) hy1
   have hgo := Lfu.ref_full hA (by omega) hy1 hc7.1 hc7.2
   refine c_region ?_
   refine o_p (p_fieldAddr (j' := 1) rfl fo54_1 rfl) ?_
   refine o_p (p_load (i := 1) (v := .slice au_0 u.list.length cu_0) rfl rfl sh52 rfl) ?_
   refine o_call0 (v := Vi ((u.list.getD (Lfu.least u.list) default).key)) rfl (rfleast_ok u.list au_0 cu_0 (by omega)) hf69 (fun w hw => (rd_base (i := 2) rfl hu_0) w hw) rfl ?_
   refine o_as rfl rfl ?_
   refine o_nil (q_then (c_seq (c_seq (c_region ?_))))
   refine o_mv rfl rfl ?_
   refine o_p (p_lt rfl rfl) ?_
   refine o_nil (q_then ?_)
   refine c_cond rfl (fun hc8 => ?_) (fun hc8 => ?_)
   ·simp only [decide_eq_true_eq] at hc8
    have hst := Lfu.ref_lt hA (by omega) hy1 hc8
    refine c_region ?_
    refine o_mv rfl rfl ?_
    refine o_p (p_addb rfl rfl (by omega)) ?_
    refine o_as rfl rfl ?_
    refine o_nil (q_then (c_seq (c_region ?_)))
    refine o_p (p_fieldAddr (j' := 0) rfl fo54_0 rfl) ?_
    refine o_p (p_load (i := 1) (v := Vi u.room) rfl rfl sh3 rfl) ?_
    refine o_mv rfl rfl ?_
    refine o_mv rfl rfl ?_
    refine o_p (p_build (cells := [Vi key, Vi (count + 1)]) fp118 ze118 rfl rfl) ?_
    refine o_buildSlice (m := 1) (T := tUse) (L := [(⟨key, (count + 1)⟩ : DUse)]) (vs := [.agg #[Vi key, Vi (count + 1)]]) rfl rfl rfl rfl Tryz.underlying52 sz118 (by decide) ze118 rfl (by decide) rfl (fun S9 a10 => ?_)
    refine o_p (p_build (cells := [Vi u.room, .slice a10 ([(⟨key, (count + 1)⟩ : DUse)]).length ([(⟨key, (count + 1)⟩ : DUse)].length)]) fp54 ze54 rfl rfl) ?_
    refine o_alloc ze54 rfl (fun B12 => ?_)
    refine o_storeN (i := 0) (vs := [Vi u.room, .slice a10 ([(⟨key, (count + 1)⟩ : DUse)]).length ([(⟨key, (count + 1)⟩ : DUse)].length)]) (cs' := [Vi u.room, .slice a10 ([(⟨key, (count + 1)⟩ : DUse)]).length ([(⟨key, (count + 1)⟩ : DUse)].length)]) rfl rfl rfl sz54 rfl rfl rfl rfl ?_
    refine o_nil (q_then (c_seq (c_seq (c_region ?_))))
    refine o_as rfl rfl ?_
    refine o_nil (q_then (c_block ?_))
    refine c_loop (St := Nat × DUses × Option Addr × Nat × (Nat → Prop))
     (fun ⟨i2, oc, aoc_0, coc_0, Soc_0⟩ => [(1, Vi key), (2, .pointer (some ⟨B1, 0, none⟩)), (4, .pointer (some ⟨B2, 0, none⟩)), (8, Vi ((u.list.getD (Lfu.least u.list) default).key)), (9, .bool hit), (11, .pointer (some ⟨B12, 0, none⟩)), (12, Vi (i2 : Int))])
     (fun ⟨i2, oc, aoc_0, coc_0, Soc_0⟩ => [box B12 [Vi oc.room, .slice aoc_0 oc.list.length coc_0] 54, own tUse Soc_0 aoc_0 coc_0 oc.list, box B2 [Vi 0, .slice none 0 0] 54, box B1 [Vi u.room, .slice au_0 u.list.length cu_0] 54, base w0])
     (fun ⟨i2, oc, aoc_0, coc_0, Soc_0⟩ => Lfu.OInv u key oc i2)
     (fun ⟨i2, oc, aoc_0, coc_0, Soc_0⟩ => u.list.length - i2)
     (0, (⟨u.room, [(⟨key, (count + 1)⟩ : DUse)]⟩ : DUses), a10, [(⟨key, (count + 1)⟩ : DUse)].length, S9) ?_ (sr (sr (sr (sr (sr (sr (sr (Sub.nil _)))))))) (fun _ hw => hw) ?_
    ·exact Lfu.OInv.start hst
    rintro ⟨i2, oc, aoc_0, coc_0, Soc_0⟩ hI K hK13
    have hle2 := hI.le
    have hol := hI.len
    have hor := hI.room
    show SC _ _ Tryz.prog 96 w0 _ _ [(1, Vi key), (2, .pointer (some ⟨B1, 0, none⟩)), (4, .pointer (some ⟨B2, 0, none⟩)), (8, Vi ((u.list.getD (Lfu.least u.list) default).key)), (9, .bool hit), (11, .pointer (some ⟨B12, 0, none⟩)), (12, Vi (i2 : Int))] [box B12 [Vi oc.room, .slice aoc_0 oc.list.length coc_0] 54, own tUse Soc_0 aoc_0 coc_0 oc.list, box B2 [Vi 0, .slice none 0 0] 54, box B1 [Vi u.room, .slice au_0 u.list.length cu_0] 54, base w0]
    refine c_seq (c_seq (c_region ?_))
    refine o_mv rfl rfl ?_
    refine o_p (p_fieldAddr (j' := 1) rfl fo54_1 rfl) ?_
    refine o_p (p_load (i := 3) (v := .slice au_0 u.list.length cu_0) rfl rfl sh52 rfl) ?_
    refine o_p (p_len_slice rfl rfl Tryz.underlying52) ?_
    refine o_p (p_lt rfl rfl) ?_
    refine o_nil (q_then ?_)
    refine c_cond rfl (fun hc14 => ?_) (fun hc14 => ?_)
    ·simp only [decide_eq_true_eq] at hc14
     refine c_skip (q_then (c_seq (c_block (c_seq (c_region ?_)))))
     refine o_p (p_fieldAddr (j' := 1) rfl fo54_1 rfl) ?_
     refine o_p (p_load (i := 3) (v := .slice au_0 u.list.length cu_0) rfl rfl sh52 rfl) ?_
     refine o_mv rfl rfl ?_
     refine o_p (p_indexAddr (L := u.list) (T := tUse) (i := (i2 : Int)) rfl rfl (rd_base (i := 4) rfl hu_0) Tryz.underlying52 sz118 (by omega) (by omega)) ?_
     refine o_p (p_fieldAddrE rfl fo118_0) ?_
     refine o_p (p_loadF (i := i2) (j := 0) (T := tUse) (L := u.list) (v := Vi ((u.list[i2]).key)) rfl (rd_base (i := 4) rfl hu_0) (by first | assumption | omega) sh3 rfl) ?_
     refine o_mv rfl rfl ?_
     refine o_p (p_ne rfl rfl) ?_
     refine o_mv rfl rfl ?_
     refine o_and (p := 82) 9 ((u.list[i2]).key != ((u.list.getD (Lfu.least u.list) default).key)) ?_ ?_ ?_
     ·intro hb15 hk
      simp only [bne_iff_ne, ne_eq] at hb15
      refine o_unguard 73 rfl rfl ?_
      refine o_p (p_fieldAddr (j' := 1) rfl fo54_1 rfl) ?_
      refine o_unguard 73 rfl rfl ?_
      refine o_p (p_load (i := 3) (v := .slice au_0 u.list.length cu_0) rfl rfl sh52 rfl) ?_
      refine o_unguard 73 rfl rfl ?_
      refine o_mv rfl rfl ?_
      refine o_unguard 73 rfl rfl ?_
      refine o_p (p_indexAddr (L := u.list) (T := tUse) (i := (i2 : Int)) rfl rfl (rd_base (i := 4) rfl hu_0) Tryz.underlying52 sz118 (by omega) (by omega)) ?_
      refine o_unguard 73 rfl rfl ?_
      refine o_p (p_fieldAddrE rfl fo118_0) ?_
      refine o_unguard 73 rfl rfl ?_
      refine o_p (p_loadF (i := i2) (j := 0) (T := tUse) (L := u.list) (v := Vi ((u.list[i2]).key)) rfl (rd_base (i := 4) rfl hu_0) (by first | assumption | omega) sh3 rfl) ?_
      refine o_unguard 73 rfl rfl ?_
      refine o_mv rfl rfl ?_
      refine o_unguard 73 rfl rfl ?_
      refine o_p (p_ne rfl rfl) ?_
      refine o_pt rfl rfl rfl ?_
      exact o_sub (sr (Sub.skip rfl (Sub.skip rfl (Sub.skip rfl (Sub.skip rfl (Sub.skip rfl (Sub.skip rfl (Sub.skip rfl (Sub.skip rfl (Sub.skip rfl (Sub.skip rfl (Sub.refl _)))))))))))) hk
     ·intro hb15 hk
      refine o_guard_no rfl 73 rfl rfl rfl rfl rfl ?_
      refine o_guard_no rfl 73 rfl rfl rfl rfl rfl ?_
      refine o_guard_no rfl 73 rfl rfl rfl rfl rfl ?_
      refine o_guard_no rfl 73 rfl rfl rfl rfl rfl ?_
      refine o_guard_no rfl 73 rfl rfl rfl rfl rfl ?_
      refine o_guard_no rfl 73 rfl rfl rfl rfl rfl ?_
      refine o_guard_no rfl 73 rfl rfl rfl rfl rfl ?_
      refine o_guard_no rfl 73 rfl rfl rfl rfl rfl ?_
      refine o_pf rfl rfl rfl ?_
      exact o_sub (sr (Sub.skip rfl (Sub.skip rfl (Sub.skip rfl (Sub.skip rfl (Sub.skip rfl (Sub.skip rfl (Sub.skip rfl (Sub.skip rfl (Sub.skip rfl (Sub.skip rfl (Sub.refl _)))))))))))) hk
     refine o_nil (q_then ?_)
     refine c_cond rfl (fun hc16 => ?_) (fun hc16 => ?_)
     ·simp only [Bool.and_eq_true, bne_iff_ne, ne_eq] at hc16
      refine c_cut (G := (Nat → Prop) × Option Addr × Option Addr × Nat × (Nat → Prop)) (fun ⟨S17_7, a17_7, a17_8, c17_8, S17_8⟩ => [(1, Vi key), (2, .pointer (some ⟨B1, 0, none⟩)), (4, .pointer (some ⟨B2, 0, none⟩)), (8, Vi ((u.list.getD (Lfu.least u.list) default).key)), (9, .bool hit), (11, .pointer (some ⟨B12, 0, none⟩)), (12, Vi (i2 : Int))]) (fun ⟨S17_7, a17_7, a17_8, c17_8, S17_8⟩ => [own tUse S17_7 a17_7 ([(⟨(u.list[i2]).key, (u.list[i2]).count⟩ : DUse)].length) ([(⟨(u.list[i2]).key, (u.list[i2]).count⟩ : DUse)]), box B12 [Vi oc.room, .slice a17_8 (oc.list ++ [(⟨(u.list[i2]).key, (u.list[i2]).count⟩ : DUse)]).length c17_8] 54, own tUse S17_8 a17_8 c17_8 (oc.list ++ [(⟨(u.list[i2]).key, (u.list[i2]).count⟩ : DUse)]), box B2 [Vi 0, .slice none 0 0] 54, box B1 [Vi u.room, .slice au_0 u.list.length cu_0] 54, base w0]) (fun K hK18 => ?_) ?_
      ·refine c_held hmix [box B2 [Vi 0, .slice none 0 0] 54, box B1 [Vi u.room, .slice au_0 u.list.length cu_0] 54, base w0] rfl rfl ?_
       refine h_tk (i := 0) (ls := #[T1,F0,F0,F0,F0,F0,F0,F0,F0,F0,F0]) rfl (p_fieldAddr (j' := 1) rfl fo54_1 rfl) (dp (lz (lz (lj (lj (lj (ln))))))) ?_
       refine h_tk (i := 2) (ls := #[T1,F0,T1,F0,F0,F0,F0,F0,F0,F0,F0]) rfl (p_fieldAddr (j' := 1) rfl fo54_1 rfl) (dp (lz (lz (lj (lj (lj (ln))))))) ?_
       refine h_tk (i := 3) (ls := #[T1,F0,T1,T1,F0,F0,F0,F0,F0,F0,F0]) rfl (p_load (i := 1) (v := .slice au_0 u.list.length cu_0) rfl rfl sh52 rfl) (dp (lz (lz (lj (lj (lj (ln))))))) ?_
       refine h_tk (i := 4) (ls := #[T1,F0,T1,T1,T1,F0,F0,F0,F0,F0,F0]) rfl (p_move rfl) (dp (lz (lz (lj (lj (lj (ln))))))) ?_
       refine h_tk (i := 5) (ls := #[T1,F0,T1,T1,T1,T1,F0,F0,F0,F0,F0]) rfl (p_indexAddr (L := u.list) (T := tUse) (i := (i2 : Int)) rfl rfl (rd_base (i := 2) rfl hu_0) Tryz.underlying52 sz118 (by omega) (by omega)) (dp (lz (lz (lj (lj (lj (ln))))))) ?_
       refine h_tk (i := 6) (ls := #[T1,F0,T1,T1,T1,T1,T1,F0,F0,F0,F0]) rfl (p_loadEn (i := i2) (T := tUse) (L := u.list) (vs := [Vi ((u.list[i2]).key), Vi ((u.list[i2]).count)]) rfl (rd_base (i := 2) rfl hu_0) (by first | assumption | omega) sh118 rfl) (dp (lz (lz (lj (lj (lj (ln))))))) ?_
       refine h_two (i := 1) (j := 7) (ls := #[T1,T1,T1,T1,T1,T1,T1,F0,F0,F0,F0]) (ls' := #[T1,F0,T1,T1,T1,T1,T1,T1,F0,F0,F0]) (by kernel_rfl) rfl rfl rfl rfl ?_ ?_
       ·refine o_p (p_load (i := 0) (v := .slice aoc_0 oc.list.length coc_0) rfl rfl sh52 rfl) ?_
        refine o_nil ?_
        refine h_next (dp (lz (lz (lj (lj (lj (ln))))))) ?_
        refine h_one (i := 7) (ls := #[T1,T1,T1,T1,T1,T1,T1,T1,F0,F0,F0]) (by kernel_rfl) rfl rfl ?_
        refine o_buildSlice (m := 1) (T := tUse) (L := [(⟨(u.list[i2]).key, (u.list[i2]).count⟩ : DUse)]) (vs := [.agg #[Vi ((u.list[i2]).key), Vi ((u.list[i2]).count)]]) rfl rfl rfl rfl Tryz.underlying52 sz118 (by decide) ze118 rfl (by decide) rfl (fun S17_7 a17_7 => ?_)
        refine o_nil ?_
        refine h_next (dp (lz (lz (lz (lj (lj (lj (ln)))))))) ?_
        refine h_one (i := 8) (ls := #[T1,T1,T1,T1,T1,T1,T1,T1,T1,F0,F0]) (by kernel_rfl) rfl rfl ?_
        refine o_append (i := 2) (L := oc.list) (M := [(⟨(u.list[i2]).key, (u.list[i2]).count⟩ : DUse)]) (T := tUse) rfl rfl rfl (rd_own (i := 0) rfl) Tryz.underlying52 Tryz.underlying52 (by intro k h; cases h) el118 (by intro z; simp [tUse, one1]) (by decide) (by first | omega | (simp only [List.length_cons, List.length_nil]; omega) | (simp only [List.length_append, List.length_cons, List.length_nil, List.length_take, List.length_drop]; omega)) rfl (fun a17_8 c17_8 S17_8 => ?_)
        refine o_nil ?_
        refine h_next (dp (lz (lz (lz (lj (lj (lj (ln)))))))) ?_
        refine h_tk (i := 9) (ls := #[T1,T1,T1,T1,T1,T1,T1,T1,T1,T1,F0]) rfl (p_fieldAddr (j' := 1) rfl fo54_1 rfl) (dp (lz (lz (lz (lj (lj (lj (ln)))))))) ?_
        refine h_one (i := 10) (ls := #[T1,T1,T1,T1,T1,T1,T1,T1,T1,T1,T1]) (by kernel_rfl) rfl rfl ?_
        refine o_store (i := 1) (v := .slice a17_8 (oc.list ++ [(⟨(u.list[i2]).key, (u.list[i2]).count⟩ : DUse)]).length c17_8) (cs' := [Vi oc.room, .slice a17_8 (oc.list ++ [(⟨(u.list[i2]).key, (u.list[i2]).count⟩ : DUse)]).length c17_8]) rfl rfl rfl sz52 rfl rfl rfl ?_
        refine o_nil ?_
        refine h_next (dp (lz (lz (lz (lj (lj (lj (ln)))))))) ?_
        refine h_done (by kernel_rfl) ?_
        refine q_kont hK18 (S17_7, a17_7, a17_8, c17_8, S17_8) (sr (sr (sr (sr (sr (sr (sr (Sub.nil _)))))))) (pk [0, 1, 2, 3, 4, 5])
       ·refine o_buildSlice (m := 1) (T := tUse) (L := [(⟨(u.list[i2]).key, (u.list[i2]).count⟩ : DUse)]) (vs := [.agg #[Vi ((u.list[i2]).key), Vi ((u.list[i2]).count)]]) rfl rfl rfl rfl Tryz.underlying52 sz118 (by decide) ze118 rfl (by decide) rfl (fun S17_7 a17_7 => ?_)
        refine o_nil ?_
        refine h_next (dp (lz (lz (lz (lj (lj (lj (ln)))))))) ?_
        refine h_one (i := 1) (ls := #[T1,T1,T1,T1,T1,T1,T1,T1,F0,F0,F0]) (by kernel_rfl) rfl rfl ?_
        refine o_p (p_load (i := 1) (v := .slice aoc_0 oc.list.length coc_0) rfl rfl sh52 rfl) ?_
        refine o_nil ?_
        refine h_next (dp (lz (lz (lz (lj (lj (lj (ln)))))))) ?_
        refine h_one (i := 8) (ls := #[T1,T1,T1,T1,T1,T1,T1,T1,T1,F0,F0]) (by kernel_rfl) rfl rfl ?_
        refine o_append (i := 2) (L := oc.list) (M := [(⟨(u.list[i2]).key, (u.list[i2]).count⟩ : DUse)]) (T := tUse) rfl rfl rfl (rd_own (i := 0) rfl) Tryz.underlying52 Tryz.underlying52 (by intro k h; cases h) el118 (by intro z; simp [tUse, one1]) (by decide) (by first | omega | (simp only [List.length_cons, List.length_nil]; omega) | (simp only [List.length_append, List.length_cons, List.length_nil, List.length_take, List.length_drop]; omega)) rfl (fun a17_8 c17_8 S17_8 => ?_)
        refine o_nil ?_
        refine h_next (dp (lz (lz (lz (lj (lj (lj (ln)))))))) ?_
        refine h_tk (i := 9) (ls := #[T1,T1,T1,T1,T1,T1,T1,T1,T1,T1,F0]) rfl (p_fieldAddr (j' := 1) rfl fo54_1 rfl) (dp (lz (lz (lz (lj (lj (lj (ln)))))))) ?_
        refine h_one (i := 10) (ls := #[T1,T1,T1,T1,T1,T1,T1,T1,T1,T1,T1]) (by kernel_rfl) rfl rfl ?_
        refine o_store (i := 1) (v := .slice a17_8 (oc.list ++ [(⟨(u.list[i2]).key, (u.list[i2]).count⟩ : DUse)]).length c17_8) (cs' := [Vi oc.room, .slice a17_8 (oc.list ++ [(⟨(u.list[i2]).key, (u.list[i2]).count⟩ : DUse)]).length c17_8]) rfl rfl rfl sz52 rfl rfl rfl ?_
        refine o_nil ?_
        refine h_next (dp (lz (lz (lz (lj (lj (lj (ln)))))))) ?_
        refine h_done (by kernel_rfl) ?_
        refine q_kont hK18 (S17_7, a17_7, a17_8, c17_8, S17_8) (sr (sr (sr (sr (sr (sr (sr (Sub.nil _)))))))) (pk [0, 1, 2, 3, 4, 5])
      rintro ⟨S17_7, a17_7, a17_8, c17_8, S17_8⟩
      show SQ _ 96 w0 _ _ [(1, Vi key), (2, .pointer (some ⟨B1, 0, none⟩)), (4, .pointer (some ⟨B2, 0, none⟩)), (8, Vi ((u.list.getD (Lfu.least u.list) default).key)), (9, .bool hit), (11, .pointer (some ⟨B12, 0, none⟩)), (12, Vi (i2 : Int))] [own tUse S17_7 a17_7 ([(⟨(u.list[i2]).key, (u.list[i2]).count⟩ : DUse)].length) ([(⟨(u.list[i2]).key, (u.list[i2]).count⟩ : DUse)]), box B12 [Vi oc.room, .slice a17_8 (oc.list ++ [(⟨(u.list[i2]).key, (u.list[i2]).count⟩ : DUse)]).length c17_8] 54, own tUse S17_8 a17_8 c17_8 (oc.list ++ [(⟨(u.list[i2]).key, (u.list[i2]).count⟩ : DUse)]), box B2 [Vi 0, .slice none 0 0] 54, box B1 [Vi u.room, .slice au_0 u.list.length cu_0] 54, base w0]
      refine q_cast (F' := [(1, Vi key), (2, .pointer (some ⟨B1, 0, none⟩)), (4, .pointer (some ⟨B2, 0, none⟩)), (8, Vi ((u.list.getD (Lfu.least u.list) default).key)), (9, .bool hit), (11, .pointer (some ⟨B12, 0, none⟩)), (12, Vi (i2 : Int))]) (H := [own tUse S17_7 a17_7 ([(⟨(u.list[i2]).key, (u.list[i2]).count⟩ : DUse)].length) ([(⟨(u.list[i2]).key, (u.list[i2]).count⟩ : DUse)]), box B12 [Vi oc.room, .slice a17_8 (oc.list ++ [(⟨(u.list[i2]).key, (u.list[i2]).count⟩ : DUse)]).length c17_8] 54, own tUse S17_8 a17_8 c17_8 (oc.list ++ [(⟨(u.list[i2]).key, (u.list[i2]).count⟩ : DUse)]), box B2 [Vi 0, .slice none 0 0] 54, box B1 [Vi u.room, .slice au_0 u.list.length cu_0] 54, base w0]) (H' := [own tUse S17_7 a17_7 ([(⟨(u.list[i2]).key, (u.list[i2]).count⟩ : DUse)].length) ([(⟨(u.list[i2]).key, (u.list[i2]).count⟩ : DUse)]), box B12 [Vi oc.room, .slice a17_8 (oc.list ++ [(⟨(u.list[i2]).key, (u.list[i2]).count⟩ : DUse)]).length c17_8] 54, own tUse S17_8 a17_8 c17_8 (oc.list ++ [(⟨(u.list[i2]).key, (u.list[i2]).count⟩ : DUse)]), box B2 [Vi 0, .slice none 0 0] 54, box B1 [Vi u.room, .slice au_0 u.list.length cu_0] 54, base w0]) (sr (sr (sr (sr (sr (sr (sr (Sub.nil _)))))))) (by rfl) ?_
      refine q_block_normal (q_then ?_)
      refine c_region ?_
      refine o_mv rfl rfl ?_
      refine o_p (p_addb rfl rfl (by omega)) ?_
      refine o_as rfl rfl ?_
      refine o_nil ?_
      refine q_round hK13 (i2 + 1, (⟨oc.room, (oc.list ++ [(⟨(u.list[i2]).key, (u.list[i2]).count⟩ : DUse)])⟩ : DUses), a17_8, c17_8, S17_8) ?_ ?_ ?_ ?_
      ·clear hK13
       first | exact hI.add hgo (by omega) (by simp_all) (by simp_all) | exact hI.drop hgo (by omega) (by grind)
      ·(try dsimp only); omega
      ·exact sr (sr (sr (sr (sr (sr (sr (Sub.nil _)))))))
      ·exact pk [1, 2, 3, 4, 5]
     ·simp only [Bool.and_eq_false_iff, bne_eq_false_iff_eq] at hc16
      refine c_skip ?_
      refine q_block_normal (q_then ?_)
      refine c_region ?_
      refine o_mv rfl rfl ?_
      refine o_p (p_addb rfl rfl (by omega)) ?_
      refine o_as rfl rfl ?_
      refine o_nil ?_
      refine q_round hK13 (i2 + 1, oc, aoc_0, coc_0, Soc_0) ?_ ?_ ?_ ?_
      ·clear hK13
       first | exact hI.add hgo (by omega) (by simp_all) (by simp_all) | exact hI.drop hgo (by omega) (by grind)
      ·(try dsimp only); omega
      ·exact sr (sr (sr (sr (sr (sr (sr (Sub.nil _)))))))
      ·exact pk [0, 1, 2, 3, 4]
    ·simp only [decide_eq_false_iff_not, Int.not_lt] at hc14
     refine c_exit ?_
     refine q_then_exit (q_then_exit (q_block_exit (q_then ?_)))
     refine c_seq (c_region ?_)
     refine o_p (p_load_agg (i := 0) (vs := [Vi oc.room, .slice aoc_0 oc.list.length coc_0]) rfl rfl sh54 rfl rfl) ?_
     refine o_mv rfl rfl ?_
     refine o_mv rfl rfl ?_
     refine o_storeN (i := 2) (vs := [Vi oc.room, .slice aoc_0 oc.list.length coc_0]) (cs' := [Vi oc.room, .slice aoc_0 oc.list.length coc_0]) rfl rfl rfl sz54 rfl rfl rfl rfl ?_
     refine o_as rfl rfl ?_
     refine o_as rfl rfl ?_
     refine o_nil (q_then (c_ret ?_))
     have hd := hI.done hy1 (by omega)
     have hr0 : (oc.room : Int) = ((Lfu.touch u key).1).room := by
      first | (rw [hd]; done) | (rw [← hd]; done) | exact hgo | exact Lfu.ref_is hA (by omega) hy1
     have hr1 : (oc.list : List DUse) = ((Lfu.touch u key).1).list := by
      first | (rw [hd]; done) | (rw [← hd]; done) | exact hgo | exact Lfu.ref_is hA (by omega) hy1
     have hr2 : (hit : Bool) = ((Lfu.touch u key).2.1) := by
      first | (rw [hd]; done) | (rw [← hd]; done) | exact hgo | exact Lfu.ref_is hA (by omega) hy1
     have hr3 : (((u.list.getD (Lfu.least u.list) default).key) : Int) = ((Lfu.touch u key).2.2) := by
      first | (rw [hd]; done) | (rw [← hd]; done) | exact hgo | exact Lfu.ref_is hA (by omega) hy1
     refine q_endM (p := (aoc_0, coc_0)) Soc_0 (rt3 rfl (r_cell (i := 2) rfl rfl sh54 rfl) (r_tmp rfl) (r_tmp rfl)) (i := 4) rfl ?_ ?_ ?_
     ·exact (by have hcc := congr (congr (congr (congrArg (fun (y0 : Int) (y1 : List DUse) (y2 : Bool) (y3 : Int) => (.tuple #[.agg #[.int .i64 y0, .slice aoc_0 y1.length coc_0], .bool y2, .int .i64 y3] : Value)) hr0) hr1) hr2) hr3; exact hcc)
     ·exact fun w hw => hw.above (i := 4) (j := 1) (by decide) rfl rfl
     ·intro w hw; exact Eq.mp (congrArg (fun y => SlO tUse _ w aoc_0 coc_0 y) hr1) ((hw.at (i := 1) rfl).here)
   ·simp only [decide_eq_false_iff_not, Int.not_lt] at hc8
    have hst := Lfu.ref_ge hA (by omega) hy1 hc8
    refine c_skip (q_then (c_seq (c_region ?_)))
    refine o_p (p_fieldAddr (j' := 0) rfl fo54_0 rfl) ?_
    refine o_p (p_load (i := 1) (v := Vi u.room) rfl rfl sh3 rfl) ?_
    refine o_mv rfl rfl ?_
    refine o_mv rfl rfl ?_
    refine o_p (p_build (cells := [Vi key, Vi count]) fp118 ze118 rfl rfl) ?_
    refine o_buildSlice (m := 1) (T := tUse) (L := [(⟨key, count⟩ : DUse)]) (vs := [.agg #[Vi key, Vi count]]) rfl rfl rfl rfl Tryz.underlying52 sz118 (by decide) ze118 rfl (by decide) rfl (fun S19 a20 => ?_)
    refine o_p (p_build (cells := [Vi u.room, .slice a20 ([(⟨key, count⟩ : DUse)]).length ([(⟨key, count⟩ : DUse)].length)]) fp54 ze54 rfl rfl) ?_
    refine o_alloc ze54 rfl (fun B22 => ?_)
    refine o_storeN (i := 0) (vs := [Vi u.room, .slice a20 ([(⟨key, count⟩ : DUse)]).length ([(⟨key, count⟩ : DUse)].length)]) (cs' := [Vi u.room, .slice a20 ([(⟨key, count⟩ : DUse)]).length ([(⟨key, count⟩ : DUse)].length)]) rfl rfl rfl sz54 rfl rfl rfl rfl ?_
    refine o_nil (q_then (c_seq (c_seq (c_region ?_))))
    refine o_as rfl rfl ?_
    refine o_nil (q_then (c_block ?_))
    refine c_loop (St := Nat × DUses × Option Addr × Nat × (Nat → Prop))
     (fun ⟨i2, oc, aoc_0, coc_0, Soc_0⟩ => [(1, Vi key), (2, .pointer (some ⟨B1, 0, none⟩)), (4, .pointer (some ⟨B2, 0, none⟩)), (8, Vi ((u.list.getD (Lfu.least u.list) default).key)), (9, .bool hit), (11, .pointer (some ⟨B22, 0, none⟩)), (12, Vi (i2 : Int))])
     (fun ⟨i2, oc, aoc_0, coc_0, Soc_0⟩ => [box B22 [Vi oc.room, .slice aoc_0 oc.list.length coc_0] 54, own tUse Soc_0 aoc_0 coc_0 oc.list, box B2 [Vi 0, .slice none 0 0] 54, box B1 [Vi u.room, .slice au_0 u.list.length cu_0] 54, base w0])
     (fun ⟨i2, oc, aoc_0, coc_0, Soc_0⟩ => Lfu.OInv u key oc i2)
     (fun ⟨i2, oc, aoc_0, coc_0, Soc_0⟩ => u.list.length - i2)
     (0, (⟨u.room, [(⟨key, count⟩ : DUse)]⟩ : DUses), a20, [(⟨key, count⟩ : DUse)].length, S19) ?_ (sr (sr (sr (sr (sr (sr (sr (Sub.nil _)))))))) (fun _ hw => hw) ?_
    ·exact Lfu.OInv.start hst
    rintro ⟨i2, oc, aoc_0, coc_0, Soc_0⟩ hI K hK23
    have hle2 := hI.le
    have hol := hI.len
    have hor := hI.room
    show SC _ _ Tryz.prog 96 w0 _ _ [(1, Vi key), (2, .pointer (some ⟨B1, 0, none⟩)), (4, .pointer (some ⟨B2, 0, none⟩)), (8, Vi ((u.list.getD (Lfu.least u.list) default).key)), (9, .bool hit), (11, .pointer (some ⟨B22, 0, none⟩)), (12, Vi (i2 : Int))] [box B22 [Vi oc.room, .slice aoc_0 oc.list.length coc_0] 54, own tUse Soc_0 aoc_0 coc_0 oc.list, box B2 [Vi 0, .slice none 0 0] 54, box B1 [Vi u.room, .slice au_0 u.list.length cu_0] 54, base w0]
    refine c_seq (c_seq (c_region ?_))
    refine o_mv rfl rfl ?_
    refine o_p (p_fieldAddr (j' := 1) rfl fo54_1 rfl) ?_
    refine o_p (p_load (i := 3) (v := .slice au_0 u.list.length cu_0) rfl rfl sh52 rfl) ?_
    refine o_p (p_len_slice rfl rfl Tryz.underlying52) ?_
    refine o_p (p_lt rfl rfl) ?_
    refine o_nil (q_then ?_)
    refine c_cond rfl (fun hc24 => ?_) (fun hc24 => ?_)
    ·simp only [decide_eq_true_eq] at hc24
     refine c_skip (q_then (c_seq (c_block (c_seq (c_region ?_)))))
     refine o_p (p_fieldAddr (j' := 1) rfl fo54_1 rfl) ?_
     refine o_p (p_load (i := 3) (v := .slice au_0 u.list.length cu_0) rfl rfl sh52 rfl) ?_
     refine o_mv rfl rfl ?_
     refine o_p (p_indexAddr (L := u.list) (T := tUse) (i := (i2 : Int)) rfl rfl (rd_base (i := 4) rfl hu_0) Tryz.underlying52 sz118 (by omega) (by omega)) ?_
     refine o_p (p_fieldAddrE rfl fo118_0) ?_
     refine o_p (p_loadF (i := i2) (j := 0) (T := tUse) (L := u.list) (v := Vi ((u.list[i2]).key)) rfl (rd_base (i := 4) rfl hu_0) (by first | assumption | omega) sh3 rfl) ?_
     refine o_mv rfl rfl ?_
     refine o_p (p_ne rfl rfl) ?_
     refine o_mv rfl rfl ?_
     refine o_and (p := 82) 9 ((u.list[i2]).key != ((u.list.getD (Lfu.least u.list) default).key)) ?_ ?_ ?_
     ·intro hb25 hk
      simp only [bne_iff_ne, ne_eq] at hb25
      refine o_unguard 73 rfl rfl ?_
      refine o_p (p_fieldAddr (j' := 1) rfl fo54_1 rfl) ?_
      refine o_unguard 73 rfl rfl ?_
      refine o_p (p_load (i := 3) (v := .slice au_0 u.list.length cu_0) rfl rfl sh52 rfl) ?_
      refine o_unguard 73 rfl rfl ?_
      refine o_mv rfl rfl ?_
      refine o_unguard 73 rfl rfl ?_
      refine o_p (p_indexAddr (L := u.list) (T := tUse) (i := (i2 : Int)) rfl rfl (rd_base (i := 4) rfl hu_0) Tryz.underlying52 sz118 (by omega) (by omega)) ?_
      refine o_unguard 73 rfl rfl ?_
      refine o_p (p_fieldAddrE rfl fo118_0) ?_
      refine o_unguard 73 rfl rfl ?_
      refine o_p (p_loadF (i := i2) (j := 0) (T := tUse) (L := u.list) (v := Vi ((u.list[i2]).key)) rfl (rd_base (i := 4) rfl hu_0) (by first | assumption | omega) sh3 rfl) ?_
      refine o_unguard 73 rfl rfl ?_
      refine o_mv rfl rfl ?_
      refine o_unguard 73 rfl rfl ?_
      refine o_p (p_ne rfl rfl) ?_
      refine o_pt rfl rfl rfl ?_
      exact o_sub (sr (Sub.skip rfl (Sub.skip rfl (Sub.skip rfl (Sub.skip rfl (Sub.skip rfl (Sub.skip rfl (Sub.skip rfl (Sub.skip rfl (Sub.skip rfl (Sub.skip rfl (Sub.refl _)))))))))))) hk
     ·intro hb25 hk
      refine o_guard_no rfl 73 rfl rfl rfl rfl rfl ?_
      refine o_guard_no rfl 73 rfl rfl rfl rfl rfl ?_
      refine o_guard_no rfl 73 rfl rfl rfl rfl rfl ?_
      refine o_guard_no rfl 73 rfl rfl rfl rfl rfl ?_
      refine o_guard_no rfl 73 rfl rfl rfl rfl rfl ?_
      refine o_guard_no rfl 73 rfl rfl rfl rfl rfl ?_
      refine o_guard_no rfl 73 rfl rfl rfl rfl rfl ?_
      refine o_guard_no rfl 73 rfl rfl rfl rfl rfl ?_
      refine o_pf rfl rfl rfl ?_
      exact o_sub (sr (Sub.skip rfl (Sub.skip rfl (Sub.skip rfl (Sub.skip rfl (Sub.skip rfl (Sub.skip rfl (Sub.skip rfl (Sub.skip rfl (Sub.skip rfl (Sub.skip rfl (Sub.refl _)))))))))))) hk
     refine o_nil (q_then ?_)
     refine c_cond rfl (fun hc26 => ?_) (fun hc26 => ?_)
     ·simp only [Bool.and_eq_true, bne_iff_ne, ne_eq] at hc26
      refine c_cut (G := (Nat → Prop) × Option Addr × Option Addr × Nat × (Nat → Prop)) (fun ⟨S27_7, a27_7, a27_8, c27_8, S27_8⟩ => [(1, Vi key), (2, .pointer (some ⟨B1, 0, none⟩)), (4, .pointer (some ⟨B2, 0, none⟩)), (8, Vi ((u.list.getD (Lfu.least u.list) default).key)), (9, .bool hit), (11, .pointer (some ⟨B22, 0, none⟩)), (12, Vi (i2 : Int))]) (fun ⟨S27_7, a27_7, a27_8, c27_8, S27_8⟩ => [own tUse S27_7 a27_7 ([(⟨(u.list[i2]).key, (u.list[i2]).count⟩ : DUse)].length) ([(⟨(u.list[i2]).key, (u.list[i2]).count⟩ : DUse)]), box B22 [Vi oc.room, .slice a27_8 (oc.list ++ [(⟨(u.list[i2]).key, (u.list[i2]).count⟩ : DUse)]).length c27_8] 54, own tUse S27_8 a27_8 c27_8 (oc.list ++ [(⟨(u.list[i2]).key, (u.list[i2]).count⟩ : DUse)]), box B2 [Vi 0, .slice none 0 0] 54, box B1 [Vi u.room, .slice au_0 u.list.length cu_0] 54, base w0]) (fun K hK28 => ?_) ?_
      ·refine c_held hmix [box B2 [Vi 0, .slice none 0 0] 54, box B1 [Vi u.room, .slice au_0 u.list.length cu_0] 54, base w0] rfl rfl ?_
       refine h_tk (i := 0) (ls := #[T1,F0,F0,F0,F0,F0,F0,F0,F0,F0,F0]) rfl (p_fieldAddr (j' := 1) rfl fo54_1 rfl) (dp (lz (lz (lj (lj (lj (ln))))))) ?_
       refine h_tk (i := 2) (ls := #[T1,F0,T1,F0,F0,F0,F0,F0,F0,F0,F0]) rfl (p_fieldAddr (j' := 1) rfl fo54_1 rfl) (dp (lz (lz (lj (lj (lj (ln))))))) ?_
       refine h_tk (i := 3) (ls := #[T1,F0,T1,T1,F0,F0,F0,F0,F0,F0,F0]) rfl (p_load (i := 1) (v := .slice au_0 u.list.length cu_0) rfl rfl sh52 rfl) (dp (lz (lz (lj (lj (lj (ln))))))) ?_
       refine h_tk (i := 4) (ls := #[T1,F0,T1,T1,T1,F0,F0,F0,F0,F0,F0]) rfl (p_move rfl) (dp (lz (lz (lj (lj (lj (ln))))))) ?_
       refine h_tk (i := 5) (ls := #[T1,F0,T1,T1,T1,T1,F0,F0,F0,F0,F0]) rfl (p_indexAddr (L := u.list) (T := tUse) (i := (i2 : Int)) rfl rfl (rd_base (i := 2) rfl hu_0) Tryz.underlying52 sz118 (by omega) (by omega)) (dp (lz (lz (lj (lj (lj (ln))))))) ?_
       refine h_tk (i := 6) (ls := #[T1,F0,T1,T1,T1,T1,T1,F0,F0,F0,F0]) rfl (p_loadEn (i := i2) (T := tUse) (L := u.list) (vs := [Vi ((u.list[i2]).key), Vi ((u.list[i2]).count)]) rfl (rd_base (i := 2) rfl hu_0) (by first | assumption | omega) sh118 rfl) (dp (lz (lz (lj (lj (lj (ln))))))) ?_
       refine h_two (i := 1) (j := 7) (ls := #[T1,T1,T1,T1,T1,T1,T1,F0,F0,F0,F0]) (ls' := #[T1,F0,T1,T1,T1,T1,T1,T1,F0,F0,F0]) (by kernel_rfl) rfl rfl rfl rfl ?_ ?_
       ·refine o_p (p_load (i := 0) (v := .slice aoc_0 oc.list.length coc_0) rfl rfl sh52 rfl) ?_
        refine o_nil ?_
        refine h_next (dp (lz (lz (lj (lj (lj (ln))))))) ?_
        refine h_one (i := 7) (ls := #[T1,T1,T1,T1,T1,T1,T1,T1,F0,F0,F0]) (by kernel_rfl) rfl rfl ?_
        refine o_buildSlice (m := 1) (T := tUse) (L := [(⟨(u.list[i2]).key, (u.list[i2]).count⟩ : DUse)]) (vs := [.agg #[Vi ((u.list[i2]).key), Vi ((u.list[i2]).count)]]) rfl rfl rfl rfl Tryz.underlying52 sz118 (by decide) ze118 rfl (by decide) rfl (fun S27_7 a27_7 => ?_)
        refine o_nil ?_
        refine h_next (dp (lz (lz (lz (lj (lj (lj (ln)))))))) ?_
        refine h_one (i := 8) (ls := #[T1,T1,T1,T1,T1,T1,T1,T1,T1,F0,F0]) (by kernel_rfl) rfl rfl ?_
        refine o_append (i := 2) (L := oc.list) (M := [(⟨(u.list[i2]).key, (u.list[i2]).count⟩ : DUse)]) (T := tUse) rfl rfl rfl (rd_own (i := 0) rfl) Tryz.underlying52 Tryz.underlying52 (by intro k h; cases h) el118 (by intro z; simp [tUse, one1]) (by decide) (by first | omega | (simp only [List.length_cons, List.length_nil]; omega) | (simp only [List.length_append, List.length_cons, List.length_nil, List.length_take, List.length_drop]; omega)) rfl (fun a27_8 c27_8 S27_8 => ?_)
        refine o_nil ?_
        refine h_next (dp (lz (lz (lz (lj (lj (lj (ln)))))))) ?_
        refine h_tk (i := 9) (ls := #[T1,T1,T1,T1,T1,T1,T1,T1,T1,T1,F0]) rfl (p_fieldAddr (j' := 1) rfl fo54_1 rfl) (dp (lz (lz (lz (lj (lj (lj (ln)))))))) ?_
        refine h_one (i := 10) (ls := #[T1,T1,T1,T1,T1,T1,T1,T1,T1,T1,T1]) (by kernel_rfl) rfl rfl ?_
        refine o_store (i := 1) (v := .slice a27_8 (oc.list ++ [(⟨(u.list[i2]).key, (u.list[i2]).count⟩ : DUse)]).length c27_8) (cs' := [Vi oc.room, .slice a27_8 (oc.list ++ [(⟨(u.list[i2]).key, (u.list[i2]).count⟩ : DUse)]).length c27_8]) rfl rfl rfl sz52 rfl rfl rfl ?_
        refine o_nil ?_
        refine h_next (dp (lz (lz (lz (lj (lj (lj (ln)))))))) ?_
        refine h_done (by kernel_rfl) ?_
        refine q_kont hK28 (S27_7, a27_7, a27_8, c27_8, S27_8) (sr (sr (sr (sr (sr (sr (sr (Sub.nil _)))))))) (pk [0, 1, 2, 3, 4, 5])
       ·refine o_buildSlice (m := 1) (T := tUse) (L := [(⟨(u.list[i2]).key, (u.list[i2]).count⟩ : DUse)]) (vs := [.agg #[Vi ((u.list[i2]).key), Vi ((u.list[i2]).count)]]) rfl rfl rfl rfl Tryz.underlying52 sz118 (by decide) ze118 rfl (by decide) rfl (fun S27_7 a27_7 => ?_)
        refine o_nil ?_
        refine h_next (dp (lz (lz (lz (lj (lj (lj (ln)))))))) ?_
        refine h_one (i := 1) (ls := #[T1,T1,T1,T1,T1,T1,T1,T1,F0,F0,F0]) (by kernel_rfl) rfl rfl ?_
        refine o_p (p_load (i := 1) (v := .slice aoc_0 oc.list.length coc_0) rfl rfl sh52 rfl) ?_
        refine o_nil ?_
        refine h_next (dp (lz (lz (lz (lj (lj (lj (ln)))))))) ?_
        refine h_one (i := 8) (ls := #[T1,T1,T1,T1,T1,T1,T1,T1,T1,F0,F0]) (by kernel_rfl) rfl rfl ?_
        refine o_append (i := 2) (L := oc.list) (M := [(⟨(u.list[i2]).key, (u.list[i2]).count⟩ : DUse)]) (T := tUse) rfl rfl rfl (rd_own (i := 0) rfl) Tryz.underlying52 Tryz.underlying52 (by intro k h; cases h) el118 (by intro z; simp [tUse, one1]) (by decide) (by first | omega | (simp only [List.length_cons, List.length_nil]; omega) | (simp only [List.length_append, List.length_cons, List.length_nil, List.length_take, List.length_drop]; omega)) rfl (fun a27_8 c27_8 S27_8 => ?_)
        refine o_nil ?_
        refine h_next (dp (lz (lz (lz (lj (lj (lj (ln)))))))) ?_
        refine h_tk (i := 9) (ls := #[T1,T1,T1,T1,T1,T1,T1,T1,T1,T1,F0]) rfl (p_fieldAddr (j' := 1) rfl fo54_1 rfl) (dp (lz (lz (lz (lj (lj (lj (ln)))))))) ?_
        refine h_one (i := 10) (ls := #[T1,T1,T1,T1,T1,T1,T1,T1,T1,T1,T1]) (by kernel_rfl) rfl rfl ?_
        refine o_store (i := 1) (v := .slice a27_8 (oc.list ++ [(⟨(u.list[i2]).key, (u.list[i2]).count⟩ : DUse)]).length c27_8) (cs' := [Vi oc.room, .slice a27_8 (oc.list ++ [(⟨(u.list[i2]).key, (u.list[i2]).count⟩ : DUse)]).length c27_8]) rfl rfl rfl sz52 rfl rfl rfl ?_
        refine o_nil ?_
        refine h_next (dp (lz (lz (lz (lj (lj (lj (ln)))))))) ?_
        refine h_done (by kernel_rfl) ?_
        refine q_kont hK28 (S27_7, a27_7, a27_8, c27_8, S27_8) (sr (sr (sr (sr (sr (sr (sr (Sub.nil _)))))))) (pk [0, 1, 2, 3, 4, 5])
      rintro ⟨S27_7, a27_7, a27_8, c27_8, S27_8⟩
      show SQ _ 96 w0 _ _ [(1, Vi key), (2, .pointer (some ⟨B1, 0, none⟩)), (4, .pointer (some ⟨B2, 0, none⟩)), (8, Vi ((u.list.getD (Lfu.least u.list) default).key)), (9, .bool hit), (11, .pointer (some ⟨B22, 0, none⟩)), (12, Vi (i2 : Int))] [own tUse S27_7 a27_7 ([(⟨(u.list[i2]).key, (u.list[i2]).count⟩ : DUse)].length) ([(⟨(u.list[i2]).key, (u.list[i2]).count⟩ : DUse)]), box B22 [Vi oc.room, .slice a27_8 (oc.list ++ [(⟨(u.list[i2]).key, (u.list[i2]).count⟩ : DUse)]).length c27_8] 54, own tUse S27_8 a27_8 c27_8 (oc.list ++ [(⟨(u.list[i2]).key, (u.list[i2]).count⟩ : DUse)]), box B2 [Vi 0, .slice none 0 0] 54, box B1 [Vi u.room, .slice au_0 u.list.length cu_0] 54, base w0]
      refine q_cast (F' := [(1, Vi key), (2, .pointer (some ⟨B1, 0, none⟩)), (4, .pointer (some ⟨B2, 0, none⟩)), (8, Vi ((u.list.getD (Lfu.least u.list) default).key)), (9, .bool hit), (11, .pointer (some ⟨B22, 0, none⟩)), (12, Vi (i2 : Int))]) (H := [own tUse S27_7 a27_7 ([(⟨(u.list[i2]).key, (u.list[i2]).count⟩ : DUse)].length) ([(⟨(u.list[i2]).key, (u.list[i2]).count⟩ : DUse)]), box B22 [Vi oc.room, .slice a27_8 (oc.list ++ [(⟨(u.list[i2]).key, (u.list[i2]).count⟩ : DUse)]).length c27_8] 54, own tUse S27_8 a27_8 c27_8 (oc.list ++ [(⟨(u.list[i2]).key, (u.list[i2]).count⟩ : DUse)]), box B2 [Vi 0, .slice none 0 0] 54, box B1 [Vi u.room, .slice au_0 u.list.length cu_0] 54, base w0]) (H' := [own tUse S27_7 a27_7 ([(⟨(u.list[i2]).key, (u.list[i2]).count⟩ : DUse)].length) ([(⟨(u.list[i2]).key, (u.list[i2]).count⟩ : DUse)]), box B22 [Vi oc.room, .slice a27_8 (oc.list ++ [(⟨(u.list[i2]).key, (u.list[i2]).count⟩ : DUse)]).length c27_8] 54, own tUse S27_8 a27_8 c27_8 (oc.list ++ [(⟨(u.list[i2]).key, (u.list[i2]).count⟩ : DUse)]), box B2 [Vi 0, .slice none 0 0] 54, box B1 [Vi u.room, .slice au_0 u.list.length cu_0] 54, base w0]) (sr (sr (sr (sr (sr (sr (sr (Sub.nil _)))))))) (by rfl) ?_
      refine q_block_normal (q_then ?_)
      refine c_region ?_
      refine o_mv rfl rfl ?_
      refine o_p (p_addb rfl rfl (by omega)) ?_
      refine o_as rfl rfl ?_
      refine o_nil ?_
      refine q_round hK23 (i2 + 1, (⟨oc.room, (oc.list ++ [(⟨(u.list[i2]).key, (u.list[i2]).count⟩ : DUse)])⟩ : DUses), a27_8, c27_8, S27_8) ?_ ?_ ?_ ?_
      ·clear hK23
       first | exact hI.add hgo (by omega) (by simp_all) (by simp_all) | exact hI.drop hgo (by omega) (by grind)
      ·(try dsimp only); omega
      ·exact sr (sr (sr (sr (sr (sr (sr (Sub.nil _)))))))
      ·exact pk [1, 2, 3, 4, 5]
     ·simp only [Bool.and_eq_false_iff, bne_eq_false_iff_eq] at hc26
      refine c_skip ?_
      refine q_block_normal (q_then ?_)
      refine c_region ?_
      refine o_mv rfl rfl ?_
      refine o_p (p_addb rfl rfl (by omega)) ?_
      refine o_as rfl rfl ?_
      refine o_nil ?_
      refine q_round hK23 (i2 + 1, oc, aoc_0, coc_0, Soc_0) ?_ ?_ ?_ ?_
      ·clear hK23
       first | exact hI.add hgo (by omega) (by simp_all) (by simp_all) | exact hI.drop hgo (by omega) (by grind)
      ·(try dsimp only); omega
      ·exact sr (sr (sr (sr (sr (sr (sr (Sub.nil _)))))))
      ·exact pk [0, 1, 2, 3, 4]
    ·simp only [decide_eq_false_iff_not, Int.not_lt] at hc24
     refine c_exit ?_
     refine q_then_exit (q_then_exit (q_block_exit (q_then ?_)))
     refine c_seq (c_region ?_)
     refine o_p (p_load_agg (i := 0) (vs := [Vi oc.room, .slice aoc_0 oc.list.length coc_0]) rfl rfl sh54 rfl rfl) ?_
     refine o_mv rfl rfl ?_
     refine o_mv rfl rfl ?_
     refine o_storeN (i := 2) (vs := [Vi oc.room, .slice aoc_0 oc.list.length coc_0]) (cs' := [Vi oc.room, .slice aoc_0 oc.list.length coc_0]) rfl rfl rfl sz54 rfl rfl rfl rfl ?_
     refine o_as rfl rfl ?_
     refine o_as rfl rfl ?_
     refine o_nil (q_then (c_ret ?_))
     have hd := hI.done hy1 (by omega)
     have hr0 : (oc.room : Int) = ((Lfu.touch u key).1).room := by
      first | (rw [hd]; done) | (rw [← hd]; done) | exact hgo | exact Lfu.ref_is hA (by omega) hy1
     have hr1 : (oc.list : List DUse) = ((Lfu.touch u key).1).list := by
      first | (rw [hd]; done) | (rw [← hd]; done) | exact hgo | exact Lfu.ref_is hA (by omega) hy1
     have hr2 : (hit : Bool) = ((Lfu.touch u key).2.1) := by
      first | (rw [hd]; done) | (rw [← hd]; done) | exact hgo | exact Lfu.ref_is hA (by omega) hy1
     have hr3 : (((u.list.getD (Lfu.least u.list) default).key) : Int) = ((Lfu.touch u key).2.2) := by
      first | (rw [hd]; done) | (rw [← hd]; done) | exact hgo | exact Lfu.ref_is hA (by omega) hy1
     refine q_endM (p := (aoc_0, coc_0)) Soc_0 (rt3 rfl (r_cell (i := 2) rfl rfl sh54 rfl) (r_tmp rfl) (r_tmp rfl)) (i := 4) rfl ?_ ?_ ?_
     ·exact (by have hcc := congr (congr (congr (congrArg (fun (y0 : Int) (y1 : List DUse) (y2 : Bool) (y3 : Int) => (.tuple #[.agg #[.int .i64 y0, .slice aoc_0 y1.length coc_0], .bool y2, .int .i64 y3] : Value)) hr0) hr1) hr2) hr3; exact hcc)
     ·exact fun w hw => hw.above (i := 4) (j := 1) (by decide) rfl rfl
     ·intro w hw; exact Eq.mp (congrArg (fun y => SlO tUse _ w aoc_0 coc_0 y) hr1) ((hw.at (i := 1) rfl).here)
  ·simp only [Bool.and_eq_false_iff, Bool.not_eq_false', beq_eq_false_iff_ne, ne_eq] at hc7
   have hA := hI
   have hcb := Lfu.ref_bd hA (by omega) hy1
   have hgo := Lfu.ref_not hA (by omega) hy1 hc7
   refine c_skip (q_then (c_seq (c_seq (c_region ?_))))
   refine o_mv rfl rfl ?_
   refine o_p (p_lt rfl rfl) ?_
   refine o_nil (q_then ?_)
   refine c_cond rfl (fun hc29 => ?_) (fun hc29 => ?_)
   ·simp only [decide_eq_true_eq] at hc29
    have hst := Lfu.ref_lt hA (by omega) hy1 hc29
    refine c_region ?_
    refine o_mv rfl rfl ?_
    refine o_p (p_addb rfl rfl (by omega)) ?_
    refine o_as rfl rfl ?_
    refine o_nil (q_then (c_seq (c_region ?_)))
    refine o_p (p_fieldAddr (j' := 0) rfl fo54_0 rfl) ?_
    refine o_p (p_load (i := 1) (v := Vi u.room) rfl rfl sh3 rfl) ?_
    refine o_mv rfl rfl ?_
    refine o_mv rfl rfl ?_
    refine o_p (p_build (cells := [Vi key, Vi (count + 1)]) fp118 ze118 rfl rfl) ?_
    refine o_buildSlice (m := 1) (T := tUse) (L := [(⟨key, (count + 1)⟩ : DUse)]) (vs := [.agg #[Vi key, Vi (count + 1)]]) rfl rfl rfl rfl Tryz.underlying52 sz118 (by decide) ze118 rfl (by decide) rfl (fun S30 a31 => ?_)
    refine o_p (p_build (cells := [Vi u.room, .slice a31 ([(⟨key, (count + 1)⟩ : DUse)]).length ([(⟨key, (count + 1)⟩ : DUse)].length)]) fp54 ze54 rfl rfl) ?_
    refine o_alloc ze54 rfl (fun B33 => ?_)
    refine o_storeN (i := 0) (vs := [Vi u.room, .slice a31 ([(⟨key, (count + 1)⟩ : DUse)]).length ([(⟨key, (count + 1)⟩ : DUse)].length)]) (cs' := [Vi u.room, .slice a31 ([(⟨key, (count + 1)⟩ : DUse)]).length ([(⟨key, (count + 1)⟩ : DUse)].length)]) rfl rfl rfl sz54 rfl rfl rfl rfl ?_
    refine o_nil (q_then (c_seq (c_seq (c_region ?_))))
    refine o_as rfl rfl ?_
    refine o_nil (q_then (c_block ?_))
    refine c_loop (St := Nat × DUses × Option Addr × Nat × (Nat → Prop))
     (fun ⟨i2, oc, aoc_0, coc_0, Soc_0⟩ => [(1, Vi key), (2, .pointer (some ⟨B1, 0, none⟩)), (4, .pointer (some ⟨B2, 0, none⟩)), (8, Vi (-1)), (9, .bool hit), (11, .pointer (some ⟨B33, 0, none⟩)), (12, Vi (i2 : Int))])
     (fun ⟨i2, oc, aoc_0, coc_0, Soc_0⟩ => [box B33 [Vi oc.room, .slice aoc_0 oc.list.length coc_0] 54, own tUse Soc_0 aoc_0 coc_0 oc.list, box B2 [Vi 0, .slice none 0 0] 54, box B1 [Vi u.room, .slice au_0 u.list.length cu_0] 54, base w0])
     (fun ⟨i2, oc, aoc_0, coc_0, Soc_0⟩ => Lfu.OInv u key oc i2)
     (fun ⟨i2, oc, aoc_0, coc_0, Soc_0⟩ => u.list.length - i2)
     (0, (⟨u.room, [(⟨key, (count + 1)⟩ : DUse)]⟩ : DUses), a31, [(⟨key, (count + 1)⟩ : DUse)].length, S30) ?_ (sr (sr (sr (sr (sr (sr (sr (Sub.nil _)))))))) (fun _ hw => hw) ?_
    ·exact Lfu.OInv.start hst
    rintro ⟨i2, oc, aoc_0, coc_0, Soc_0⟩ hI K hK34
    have hle2 := hI.le
    have hol := hI.len
    have hor := hI.room
    show SC _ _ Tryz.prog 96 w0 _ _ [(1, Vi key), (2, .pointer (some ⟨B1, 0, none⟩)), (4, .pointer (some ⟨B2, 0, none⟩)), (8, Vi (-1)), (9, .bool hit), (11, .pointer (some ⟨B33, 0, none⟩)), (12, Vi (i2 : Int))] [box B33 [Vi oc.room, .slice aoc_0 oc.list.length coc_0] 54, own tUse Soc_0 aoc_0 coc_0 oc.list, box B2 [Vi 0, .slice none 0 0] 54, box B1 [Vi u.room, .slice au_0 u.list.length cu_0] 54, base w0]
    refine c_seq (c_seq (c_region ?_))
    refine o_mv rfl rfl ?_
    refine o_p (p_fieldAddr (j' := 1) rfl fo54_1 rfl) ?_
    refine o_p (p_load (i := 3) (v := .slice au_0 u.list.length cu_0) rfl rfl sh52 rfl) ?_
    refine o_p (p_len_slice rfl rfl Tryz.underlying52) ?_
    refine o_p (p_lt rfl rfl) ?_
    refine o_nil (q_then ?_)
    refine c_cond rfl (fun hc35 => ?_) (fun hc35 => ?_)
    ·simp only [decide_eq_true_eq] at hc35
     refine c_skip (q_then (c_seq (c_block (c_seq (c_region ?_)))))
     refine o_p (p_fieldAddr (j' := 1) rfl fo54_1 rfl) ?_
     refine o_p (p_load (i := 3) (v := .slice au_0 u.list.length cu_0) rfl rfl sh52 rfl) ?_
     refine o_mv rfl rfl ?_
     refine o_p (p_indexAddr (L := u.list) (T := tUse) (i := (i2 : Int)) rfl rfl (rd_base (i := 4) rfl hu_0) Tryz.underlying52 sz118 (by omega) (by omega)) ?_
     refine o_p (p_fieldAddrE rfl fo118_0) ?_
     refine o_p (p_loadF (i := i2) (j := 0) (T := tUse) (L := u.list) (v := Vi ((u.list[i2]).key)) rfl (rd_base (i := 4) rfl hu_0) (by first | assumption | omega) sh3 rfl) ?_
     refine o_mv rfl rfl ?_
     refine o_p (p_ne rfl rfl) ?_
     refine o_mv rfl rfl ?_
     refine o_and (p := 82) 9 ((u.list[i2]).key != (-1)) ?_ ?_ ?_
     ·intro hb36 hk
      simp only [bne_iff_ne, ne_eq] at hb36
      refine o_unguard 73 rfl rfl ?_
      refine o_p (p_fieldAddr (j' := 1) rfl fo54_1 rfl) ?_
      refine o_unguard 73 rfl rfl ?_
      refine o_p (p_load (i := 3) (v := .slice au_0 u.list.length cu_0) rfl rfl sh52 rfl) ?_
      refine o_unguard 73 rfl rfl ?_
      refine o_mv rfl rfl ?_
      refine o_unguard 73 rfl rfl ?_
      refine o_p (p_indexAddr (L := u.list) (T := tUse) (i := (i2 : Int)) rfl rfl (rd_base (i := 4) rfl hu_0) Tryz.underlying52 sz118 (by omega) (by omega)) ?_
      refine o_unguard 73 rfl rfl ?_
      refine o_p (p_fieldAddrE rfl fo118_0) ?_
      refine o_unguard 73 rfl rfl ?_
      refine o_p (p_loadF (i := i2) (j := 0) (T := tUse) (L := u.list) (v := Vi ((u.list[i2]).key)) rfl (rd_base (i := 4) rfl hu_0) (by first | assumption | omega) sh3 rfl) ?_
      refine o_unguard 73 rfl rfl ?_
      refine o_mv rfl rfl ?_
      refine o_unguard 73 rfl rfl ?_
      refine o_p (p_ne rfl rfl) ?_
      refine o_pt rfl rfl rfl ?_
      exact o_sub (sr (Sub.skip rfl (Sub.skip rfl (Sub.skip rfl (Sub.skip rfl (Sub.skip rfl (Sub.skip rfl (Sub.skip rfl (Sub.skip rfl (Sub.skip rfl (Sub.skip rfl (Sub.refl _)))))))))))) hk
     ·intro hb36 hk
      refine o_guard_no rfl 73 rfl rfl rfl rfl rfl ?_
      refine o_guard_no rfl 73 rfl rfl rfl rfl rfl ?_
      refine o_guard_no rfl 73 rfl rfl rfl rfl rfl ?_
      refine o_guard_no rfl 73 rfl rfl rfl rfl rfl ?_
      refine o_guard_no rfl 73 rfl rfl rfl rfl rfl ?_
      refine o_guard_no rfl 73 rfl rfl rfl rfl rfl ?_
      refine o_guard_no rfl 73 rfl rfl rfl rfl rfl ?_
      refine o_guard_no rfl 73 rfl rfl rfl rfl rfl ?_
      refine o_pf rfl rfl rfl ?_
      exact o_sub (sr (Sub.skip rfl (Sub.skip rfl (Sub.skip rfl (Sub.skip rfl (Sub.skip rfl (Sub.skip rfl (Sub.skip rfl (Sub.skip rfl (Sub.skip rfl (Sub.skip rfl (Sub.refl _)))))))))))) hk
     refine o_nil (q_then ?_)
     refine c_cond rfl (fun hc37 => ?_) (fun hc37 => ?_)
     ·simp only [Bool.and_eq_true, bne_iff_ne, ne_eq] at hc37
      refine c_cut (G := (Nat → Prop) × Option Addr × Option Addr × Nat × (Nat → Prop)) (fun ⟨S38_7, a38_7, a38_8, c38_8, S38_8⟩ => [(1, Vi key), (2, .pointer (some ⟨B1, 0, none⟩)), (4, .pointer (some ⟨B2, 0, none⟩)), (8, Vi (-1)), (9, .bool hit), (11, .pointer (some ⟨B33, 0, none⟩)), (12, Vi (i2 : Int))]) (fun ⟨S38_7, a38_7, a38_8, c38_8, S38_8⟩ => [own tUse S38_7 a38_7 ([(⟨(u.list[i2]).key, (u.list[i2]).count⟩ : DUse)].length) ([(⟨(u.list[i2]).key, (u.list[i2]).count⟩ : DUse)]), box B33 [Vi oc.room, .slice a38_8 (oc.list ++ [(⟨(u.list[i2]).key, (u.list[i2]).count⟩ : DUse)]).length c38_8] 54, own tUse S38_8 a38_8 c38_8 (oc.list ++ [(⟨(u.list[i2]).key, (u.list[i2]).count⟩ : DUse)]), box B2 [Vi 0, .slice none 0 0] 54, box B1 [Vi u.room, .slice au_0 u.list.length cu_0] 54, base w0]) (fun K hK39 => ?_) ?_
      ·refine c_held hmix [box B2 [Vi 0, .slice none 0 0] 54, box B1 [Vi u.room, .slice au_0 u.list.length cu_0] 54, base w0] rfl rfl ?_
       refine h_tk (i := 0) (ls := #[T1,F0,F0,F0,F0,F0,F0,F0,F0,F0,F0]) rfl (p_fieldAddr (j' := 1) rfl fo54_1 rfl) (dp (lz (lz (lj (lj (lj (ln))))))) ?_
       refine h_tk (i := 2) (ls := #[T1,F0,T1,F0,F0,F0,F0,F0,F0,F0,F0]) rfl (p_fieldAddr (j' := 1) rfl fo54_1 rfl) (dp (lz (lz (lj (lj (lj (ln))))))) ?_
       refine h_tk (i := 3) (ls := #[T1,F0,T1,T1,F0,F0,F0,F0,F0,F0,F0]) rfl (p_load (i := 1) (v := .slice au_0 u.list.length cu_0) rfl rfl sh52 rfl) (dp (lz (lz (lj (lj (lj (ln))))))) ?_
       refine h_tk (i := 4) (ls := #[T1,F0,T1,T1,T1,F0,F0,F0,F0,F0,F0]) rfl (p_move rfl) (dp (lz (lz (lj (lj (lj (ln))))))) ?_
       refine h_tk (i := 5) (ls := #[T1,F0,T1,T1,T1,T1,F0,F0,F0,F0,F0]) rfl (p_indexAddr (L := u.list) (T := tUse) (i := (i2 : Int)) rfl rfl (rd_base (i := 2) rfl hu_0) Tryz.underlying52 sz118 (by omega) (by omega)) (dp (lz (lz (lj (lj (lj (ln))))))) ?_
       refine h_tk (i := 6) (ls := #[T1,F0,T1,T1,T1,T1,T1,F0,F0,F0,F0]) rfl (p_loadEn (i := i2) (T := tUse) (L := u.list) (vs := [Vi ((u.list[i2]).key), Vi ((u.list[i2]).count)]) rfl (rd_base (i := 2) rfl hu_0) (by first | assumption | omega) sh118 rfl) (dp (lz (lz (lj (lj (lj (ln))))))) ?_
       refine h_two (i := 1) (j := 7) (ls := #[T1,T1,T1,T1,T1,T1,T1,F0,F0,F0,F0]) (ls' := #[T1,F0,T1,T1,T1,T1,T1,T1,F0,F0,F0]) (by kernel_rfl) rfl rfl rfl rfl ?_ ?_
       ·refine o_p (p_load (i := 0) (v := .slice aoc_0 oc.list.length coc_0) rfl rfl sh52 rfl) ?_
        refine o_nil ?_
        refine h_next (dp (lz (lz (lj (lj (lj (ln))))))) ?_
        refine h_one (i := 7) (ls := #[T1,T1,T1,T1,T1,T1,T1,T1,F0,F0,F0]) (by kernel_rfl) rfl rfl ?_
        refine o_buildSlice (m := 1) (T := tUse) (L := [(⟨(u.list[i2]).key, (u.list[i2]).count⟩ : DUse)]) (vs := [.agg #[Vi ((u.list[i2]).key), Vi ((u.list[i2]).count)]]) rfl rfl rfl rfl Tryz.underlying52 sz118 (by decide) ze118 rfl (by decide) rfl (fun S38_7 a38_7 => ?_)
        refine o_nil ?_
        refine h_next (dp (lz (lz (lz (lj (lj (lj (ln)))))))) ?_
        refine h_one (i := 8) (ls := #[T1,T1,T1,T1,T1,T1,T1,T1,T1,F0,F0]) (by kernel_rfl) rfl rfl ?_
        refine o_append (i := 2) (L := oc.list) (M := [(⟨(u.list[i2]).key, (u.list[i2]).count⟩ : DUse)]) (T := tUse) rfl rfl rfl (rd_own (i := 0) rfl) Tryz.underlying52 Tryz.underlying52 (by intro k h; cases h) el118 (by intro z; simp [tUse, one1]) (by decide) (by first | omega | (simp only [List.length_cons, List.length_nil]; omega) | (simp only [List.length_append, List.length_cons, List.length_nil, List.length_take, List.length_drop]; omega)) rfl (fun a38_8 c38_8 S38_8 => ?_)
        refine o_nil ?_
        refine h_next (dp (lz (lz (lz (lj (lj (lj (ln)))))))) ?_
        refine h_tk (i := 9) (ls := #[T1,T1,T1,T1,T1,T1,T1,T1,T1,T1,F0]) rfl (p_fieldAddr (j' := 1) rfl fo54_1 rfl) (dp (lz (lz (lz (lj (lj (lj (ln)))))))) ?_
        refine h_one (i := 10) (ls := #[T1,T1,T1,T1,T1,T1,T1,T1,T1,T1,T1]) (by kernel_rfl) rfl rfl ?_
        refine o_store (i := 1) (v := .slice a38_8 (oc.list ++ [(⟨(u.list[i2]).key, (u.list[i2]).count⟩ : DUse)]).length c38_8) (cs' := [Vi oc.room, .slice a38_8 (oc.list ++ [(⟨(u.list[i2]).key, (u.list[i2]).count⟩ : DUse)]).length c38_8]) rfl rfl rfl sz52 rfl rfl rfl ?_
        refine o_nil ?_
        refine h_next (dp (lz (lz (lz (lj (lj (lj (ln)))))))) ?_
        refine h_done (by kernel_rfl) ?_
        refine q_kont hK39 (S38_7, a38_7, a38_8, c38_8, S38_8) (sr (sr (sr (sr (sr (sr (sr (Sub.nil _)))))))) (pk [0, 1, 2, 3, 4, 5])
       ·refine o_buildSlice (m := 1) (T := tUse) (L := [(⟨(u.list[i2]).key, (u.list[i2]).count⟩ : DUse)]) (vs := [.agg #[Vi ((u.list[i2]).key), Vi ((u.list[i2]).count)]]) rfl rfl rfl rfl Tryz.underlying52 sz118 (by decide) ze118 rfl (by decide) rfl (fun S38_7 a38_7 => ?_)
        refine o_nil ?_
        refine h_next (dp (lz (lz (lz (lj (lj (lj (ln)))))))) ?_
        refine h_one (i := 1) (ls := #[T1,T1,T1,T1,T1,T1,T1,T1,F0,F0,F0]) (by kernel_rfl) rfl rfl ?_
        refine o_p (p_load (i := 1) (v := .slice aoc_0 oc.list.length coc_0) rfl rfl sh52 rfl) ?_
        refine o_nil ?_
        refine h_next (dp (lz (lz (lz (lj (lj (lj (ln)))))))) ?_
        refine h_one (i := 8) (ls := #[T1,T1,T1,T1,T1,T1,T1,T1,T1,F0,F0]) (by kernel_rfl) rfl rfl ?_
        refine o_append (i := 2) (L := oc.list) (M := [(⟨(u.list[i2]).key, (u.list[i2]).count⟩ : DUse)]) (T := tUse) rfl rfl rfl (rd_own (i := 0) rfl) Tryz.underlying52 Tryz.underlying52 (by intro k h; cases h) el118 (by intro z; simp [tUse, one1]) (by decide) (by first | omega | (simp only [List.length_cons, List.length_nil]; omega) | (simp only [List.length_append, List.length_cons, List.length_nil, List.length_take, List.length_drop]; omega)) rfl (fun a38_8 c38_8 S38_8 => ?_)
        refine o_nil ?_
        refine h_next (dp (lz (lz (lz (lj (lj (lj (ln)))))))) ?_
        refine h_tk (i := 9) (ls := #[T1,T1,T1,T1,T1,T1,T1,T1,T1,T1,F0]) rfl (p_fieldAddr (j' := 1) rfl fo54_1 rfl) (dp (lz (lz (lz (lj (lj (lj (ln)))))))) ?_
        refine h_one (i := 10) (ls := #[T1,T1,T1,T1,T1,T1,T1,T1,T1,T1,T1]) (by kernel_rfl) rfl rfl ?_
        refine o_store (i := 1) (v := .slice a38_8 (oc.list ++ [(⟨(u.list[i2]).key, (u.list[i2]).count⟩ : DUse)]).length c38_8) (cs' := [Vi oc.room, .slice a38_8 (oc.list ++ [(⟨(u.list[i2]).key, (u.list[i2]).count⟩ : DUse)]).length c38_8]) rfl rfl rfl sz52 rfl rfl rfl ?_
        refine o_nil ?_
        refine h_next (dp (lz (lz (lz (lj (lj (lj (ln)))))))) ?_
        refine h_done (by kernel_rfl) ?_
        refine q_kont hK39 (S38_7, a38_7, a38_8, c38_8, S38_8) (sr (sr (sr (sr (sr (sr (sr (Sub.nil _)))))))) (pk [0, 1, 2, 3, 4, 5])
      rintro ⟨S38_7, a38_7, a38_8, c38_8, S38_8⟩
      show SQ _ 96 w0 _ _ [(1, Vi key), (2, .pointer (some ⟨B1, 0, none⟩)), (4, .pointer (some ⟨B2, 0, none⟩)), (8, Vi (-1)), (9, .bool hit), (11, .pointer (some ⟨B33, 0, none⟩)), (12, Vi (i2 : Int))] [own tUse S38_7 a38_7 ([(⟨(u.list[i2]).key, (u.list[i2]).count⟩ : DUse)].length) ([(⟨(u.list[i2]).key, (u.list[i2]).count⟩ : DUse)]), box B33 [Vi oc.room, .slice a38_8 (oc.list ++ [(⟨(u.list[i2]).key, (u.list[i2]).count⟩ : DUse)]).length c38_8] 54, own tUse S38_8 a38_8 c38_8 (oc.list ++ [(⟨(u.list[i2]).key, (u.list[i2]).count⟩ : DUse)]), box B2 [Vi 0, .slice none 0 0] 54, box B1 [Vi u.room, .slice au_0 u.list.length cu_0] 54, base w0]
      refine q_cast (F' := [(1, Vi key), (2, .pointer (some ⟨B1, 0, none⟩)), (4, .pointer (some ⟨B2, 0, none⟩)), (8, Vi (-1)), (9, .bool hit), (11, .pointer (some ⟨B33, 0, none⟩)), (12, Vi (i2 : Int))]) (H := [own tUse S38_7 a38_7 ([(⟨(u.list[i2]).key, (u.list[i2]).count⟩ : DUse)].length) ([(⟨(u.list[i2]).key, (u.list[i2]).count⟩ : DUse)]), box B33 [Vi oc.room, .slice a38_8 (oc.list ++ [(⟨(u.list[i2]).key, (u.list[i2]).count⟩ : DUse)]).length c38_8] 54, own tUse S38_8 a38_8 c38_8 (oc.list ++ [(⟨(u.list[i2]).key, (u.list[i2]).count⟩ : DUse)]), box B2 [Vi 0, .slice none 0 0] 54, box B1 [Vi u.room, .slice au_0 u.list.length cu_0] 54, base w0]) (H' := [own tUse S38_7 a38_7 ([(⟨(u.list[i2]).key, (u.list[i2]).count⟩ : DUse)].length) ([(⟨(u.list[i2]).key, (u.list[i2]).count⟩ : DUse)]), box B33 [Vi oc.room, .slice a38_8 (oc.list ++ [(⟨(u.list[i2]).key, (u.list[i2]).count⟩ : DUse)]).length c38_8] 54, own tUse S38_8 a38_8 c38_8 (oc.list ++ [(⟨(u.list[i2]).key, (u.list[i2]).count⟩ : DUse)]), box B2 [Vi 0, .slice none 0 0] 54, box B1 [Vi u.room, .slice au_0 u.list.length cu_0] 54, base w0]) (sr (sr (sr (sr (sr (sr (sr (Sub.nil _)))))))) (by rfl) ?_
      refine q_block_normal (q_then ?_)
      refine c_region ?_
      refine o_mv rfl rfl ?_
      refine o_p (p_addb rfl rfl (by omega)) ?_
      refine o_as rfl rfl ?_
      refine o_nil ?_
      refine q_round hK34 (i2 + 1, (⟨oc.room, (oc.list ++ [(⟨(u.list[i2]).key, (u.list[i2]).count⟩ : DUse)])⟩ : DUses), a38_8, c38_8, S38_8) ?_ ?_ ?_ ?_
      ·clear hK34
       first | exact hI.add hgo (by omega) (by simp_all) (by simp_all) | exact hI.drop hgo (by omega) (by grind)
      ·(try dsimp only); omega
      ·exact sr (sr (sr (sr (sr (sr (sr (Sub.nil _)))))))
      ·exact pk [1, 2, 3, 4, 5]
     ·simp only [Bool.and_eq_false_iff, bne_eq_false_iff_eq] at hc37
      refine c_skip ?_
      refine q_block_normal (q_then ?_)
      refine c_region ?_
      refine o_mv rfl rfl ?_
      refine o_p (p_addb rfl rfl (by omega)) ?_
      refine o_as rfl rfl ?_
      refine o_nil ?_
      refine q_round hK34 (i2 + 1, oc, aoc_0, coc_0, Soc_0) ?_ ?_ ?_ ?_
      ·clear hK34
       first | exact hI.add hgo (by omega) (by simp_all) (by simp_all) | exact hI.drop hgo (by omega) (by grind)
      ·(try dsimp only); omega
      ·exact sr (sr (sr (sr (sr (sr (sr (Sub.nil _)))))))
      ·exact pk [0, 1, 2, 3, 4]
    ·simp only [decide_eq_false_iff_not, Int.not_lt] at hc35
     refine c_exit ?_
     refine q_then_exit (q_then_exit (q_block_exit (q_then ?_)))
     refine c_seq (c_region ?_)
     refine o_p (p_load_agg (i := 0) (vs := [Vi oc.room, .slice aoc_0 oc.list.length coc_0]) rfl rfl sh54 rfl rfl) ?_
     refine o_mv rfl rfl ?_
     refine o_mv rfl rfl ?_
     refine o_storeN (i := 2) (vs := [Vi oc.room, .slice aoc_0 oc.list.length coc_0]) (cs' := [Vi oc.room, .slice aoc_0 oc.list.length coc_0]) rfl rfl rfl sz54 rfl rfl rfl rfl ?_
     refine o_as rfl rfl ?_
     refine o_as rfl rfl ?_
     refine o_nil (q_then (c_ret ?_))
     have hd := hI.done hy1 (by omega)
     have hr0 : (oc.room : Int) = ((Lfu.touch u key).1).room := by
      first | (rw [hd]; done) | (rw [← hd]; done) | exact hgo | exact Lfu.ref_is hA (by omega) hy1
     have hr1 : (oc.list : List DUse) = ((Lfu.touch u key).1).list := by
      first | (rw [hd]; done) | (rw [← hd]; done) | exact hgo | exact Lfu.ref_is hA (by omega) hy1
     have hr2 : (hit : Bool) = ((Lfu.touch u key).2.1) := by
      first | (rw [hd]; done) | (rw [← hd]; done) | exact hgo | exact Lfu.ref_is hA (by omega) hy1
     have hr3 : ((-1) : Int) = ((Lfu.touch u key).2.2) := by
      first | (rw [hd]; done) | (rw [← hd]; done) | exact hgo | exact Lfu.ref_is hA (by omega) hy1
     refine q_endM (p := (aoc_0, coc_0)) Soc_0 (rt3 rfl (r_cell (i := 2) rfl rfl sh54 rfl) (r_tmp rfl) (r_tmp rfl)) (i := 4) rfl ?_ ?_ ?_
     ·exact (by have hcc := congr (congr (congr (congrArg (fun (y0 : Int) (y1 : List DUse) (y2 : Bool) (y3 : Int) => (.tuple #[.agg #[.int .i64 y0, .slice aoc_0 y1.length coc_0], .bool y2, .int .i64 y3] : Value)) hr0) hr1) hr2) hr3; exact hcc)
     ·exact fun w hw => hw.above (i := 4) (j := 1) (by decide) rfl rfl
     ·intro w hw; exact Eq.mp (congrArg (fun y => SlO tUse _ w aoc_0 coc_0 y) hr1) ((hw.at (i := 1) rfl).here)
   ·simp only [decide_eq_false_iff_not, Int.not_lt] at hc29
    have hst := Lfu.ref_ge hA (by omega) hy1 hc29
    refine c_skip (q_then (c_seq (c_region ?_)))
    refine o_p (p_fieldAddr (j' := 0) rfl fo54_0 rfl) ?_
    refine o_p (p_load (i := 1) (v := Vi u.room) rfl rfl sh3 rfl) ?_
    refine o_mv rfl rfl ?_
    refine o_mv rfl rfl ?_
    refine o_p (p_build (cells := [Vi key, Vi count]) fp118 ze118 rfl rfl) ?_
    refine o_buildSlice (m := 1) (T := tUse) (L := [(⟨key, count⟩ : DUse)]) (vs := [.agg #[Vi key, Vi count]]) rfl rfl rfl rfl Tryz.underlying52 sz118 (by decide) ze118 rfl (by decide) rfl (fun S40 a41 => ?_)
    refine o_p (p_build (cells := [Vi u.room, .slice a41 ([(⟨key, count⟩ : DUse)]).length ([(⟨key, count⟩ : DUse)].length)]) fp54 ze54 rfl rfl) ?_
    refine o_alloc ze54 rfl (fun B43 => ?_)
    refine o_storeN (i := 0) (vs := [Vi u.room, .slice a41 ([(⟨key, count⟩ : DUse)]).length ([(⟨key, count⟩ : DUse)].length)]) (cs' := [Vi u.room, .slice a41 ([(⟨key, count⟩ : DUse)]).length ([(⟨key, count⟩ : DUse)].length)]) rfl rfl rfl sz54 rfl rfl rfl rfl ?_
    refine o_nil (q_then (c_seq (c_seq (c_region ?_))))
    refine o_as rfl rfl ?_
    refine o_nil (q_then (c_block ?_))
    refine c_loop (St := Nat × DUses × Option Addr × Nat × (Nat → Prop))
     (fun ⟨i2, oc, aoc_0, coc_0, Soc_0⟩ => [(1, Vi key), (2, .pointer (some ⟨B1, 0, none⟩)), (4, .pointer (some ⟨B2, 0, none⟩)), (8, Vi (-1)), (9, .bool hit), (11, .pointer (some ⟨B43, 0, none⟩)), (12, Vi (i2 : Int))])
     (fun ⟨i2, oc, aoc_0, coc_0, Soc_0⟩ => [box B43 [Vi oc.room, .slice aoc_0 oc.list.length coc_0] 54, own tUse Soc_0 aoc_0 coc_0 oc.list, box B2 [Vi 0, .slice none 0 0] 54, box B1 [Vi u.room, .slice au_0 u.list.length cu_0] 54, base w0])
     (fun ⟨i2, oc, aoc_0, coc_0, Soc_0⟩ => Lfu.OInv u key oc i2)
     (fun ⟨i2, oc, aoc_0, coc_0, Soc_0⟩ => u.list.length - i2)
     (0, (⟨u.room, [(⟨key, count⟩ : DUse)]⟩ : DUses), a41, [(⟨key, count⟩ : DUse)].length, S40) ?_ (sr (sr (sr (sr (sr (sr (sr (Sub.nil _)))))))) (fun _ hw => hw) ?_
    ·exact Lfu.OInv.start hst
    rintro ⟨i2, oc, aoc_0, coc_0, Soc_0⟩ hI K hK44
    have hle2 := hI.le
    have hol := hI.len
    have hor := hI.room
    show SC _ _ Tryz.prog 96 w0 _ _ [(1, Vi key), (2, .pointer (some ⟨B1, 0, none⟩)), (4, .pointer (some ⟨B2, 0, none⟩)), (8, Vi (-1)), (9, .bool hit), (11, .pointer (some ⟨B43, 0, none⟩)), (12, Vi (i2 : Int))] [box B43 [Vi oc.room, .slice aoc_0 oc.list.length coc_0] 54, own tUse Soc_0 aoc_0 coc_0 oc.list, box B2 [Vi 0, .slice none 0 0] 54, box B1 [Vi u.room, .slice au_0 u.list.length cu_0] 54, base w0]
    refine c_seq (c_seq (c_region ?_))
    refine o_mv rfl rfl ?_
    refine o_p (p_fieldAddr (j' := 1) rfl fo54_1 rfl) ?_
    refine o_p (p_load (i := 3) (v := .slice au_0 u.list.length cu_0) rfl rfl sh52 rfl) ?_
    refine o_p (p_len_slice rfl rfl Tryz.underlying52) ?_
    refine o_p (p_lt rfl rfl) ?_
    refine o_nil (q_then ?_)
    refine c_cond rfl (fun hc45 => ?_) (fun hc45 => ?_)
    ·simp only [decide_eq_true_eq] at hc45
     refine c_skip (q_then (c_seq (c_block (c_seq (c_region ?_)))))
     refine o_p (p_fieldAddr (j' := 1) rfl fo54_1 rfl) ?_
     refine o_p (p_load (i := 3) (v := .slice au_0 u.list.length cu_0) rfl rfl sh52 rfl) ?_
     refine o_mv rfl rfl ?_
     refine o_p (p_indexAddr (L := u.list) (T := tUse) (i := (i2 : Int)) rfl rfl (rd_base (i := 4) rfl hu_0) Tryz.underlying52 sz118 (by omega) (by omega)) ?_
     refine o_p (p_fieldAddrE rfl fo118_0) ?_
     refine o_p (p_loadF (i := i2) (j := 0) (T := tUse) (L := u.list) (v := Vi ((u.list[i2]).key)) rfl (rd_base (i := 4) rfl hu_0) (by first | assumption | omega) sh3 rfl) ?_
     refine o_mv rfl rfl ?_
     refine o_p (p_ne rfl rfl) ?_
     refine o_mv rfl rfl ?_
     refine o_and (p := 82) 9 ((u.list[i2]).key != (-1)) ?_ ?_ ?_
     ·intro hb46 hk
      simp only [bne_iff_ne, ne_eq] at hb46
      refine o_unguard 73 rfl rfl ?_
      refine o_p (p_fieldAddr (j' := 1) rfl fo54_1 rfl) ?_
      refine o_unguard 73 rfl rfl ?_
      refine o_p (p_load (i := 3) (v := .slice au_0 u.list.length cu_0) rfl rfl sh52 rfl) ?_
      refine o_unguard 73 rfl rfl ?_
      refine o_mv rfl rfl ?_
      refine o_unguard 73 rfl rfl ?_
      refine o_p (p_indexAddr (L := u.list) (T := tUse) (i := (i2 : Int)) rfl rfl (rd_base (i := 4) rfl hu_0) Tryz.underlying52 sz118 (by omega) (by omega)) ?_
      refine o_unguard 73 rfl rfl ?_
      refine o_p (p_fieldAddrE rfl fo118_0) ?_
      refine o_unguard 73 rfl rfl ?_
      refine o_p (p_loadF (i := i2) (j := 0) (T := tUse) (L := u.list) (v := Vi ((u.list[i2]).key)) rfl (rd_base (i := 4) rfl hu_0) (by first | assumption | omega) sh3 rfl) ?_
      refine o_unguard 73 rfl rfl ?_
      refine o_mv rfl rfl ?_
      refine o_unguard 73 rfl rfl ?_
      refine o_p (p_ne rfl rfl) ?_
      refine o_pt rfl rfl rfl ?_
      exact o_sub (sr (Sub.skip rfl (Sub.skip rfl (Sub.skip rfl (Sub.skip rfl (Sub.skip rfl (Sub.skip rfl (Sub.skip rfl (Sub.skip rfl (Sub.skip rfl (Sub.skip rfl (Sub.refl _)))))))))))) hk
     ·intro hb46 hk
      refine o_guard_no rfl 73 rfl rfl rfl rfl rfl ?_
      refine o_guard_no rfl 73 rfl rfl rfl rfl rfl ?_
      refine o_guard_no rfl 73 rfl rfl rfl rfl rfl ?_
      refine o_guard_no rfl 73 rfl rfl rfl rfl rfl ?_
      refine o_guard_no rfl 73 rfl rfl rfl rfl rfl ?_
      refine o_guard_no rfl 73 rfl rfl rfl rfl rfl ?_
      refine o_guard_no rfl 73 rfl rfl rfl rfl rfl ?_
      refine o_guard_no rfl 73 rfl rfl rfl rfl rfl ?_
      refine o_pf rfl rfl rfl ?_
      exact o_sub (sr (Sub.skip rfl (Sub.skip rfl (Sub.skip rfl (Sub.skip rfl (Sub.skip rfl (Sub.skip rfl (Sub.skip rfl (Sub.skip rfl (Sub.skip rfl (Sub.skip rfl (Sub.refl _)))))))))))) hk
     refine o_nil (q_then ?_)
     refine c_cond rfl (fun hc47 => ?_) (fun hc47 => ?_)
     ·simp only [Bool.and_eq_true, bne_iff_ne, ne_eq] at hc47
      refine c_cut (G := (Nat → Prop) × Option Addr × Option Addr × Nat × (Nat → Prop)) (fun ⟨S48_7, a48_7, a48_8, c48_8, S48_8⟩ => [(1, Vi key), (2, .pointer (some ⟨B1, 0, none⟩)), (4, .pointer (some ⟨B2, 0, none⟩)), (8, Vi (-1)), (9, .bool hit), (11, .pointer (some ⟨B43, 0, none⟩)), (12, Vi (i2 : Int))]) (fun ⟨S48_7, a48_7, a48_8, c48_8, S48_8⟩ => [own tUse S48_7 a48_7 ([(⟨(u.list[i2]).key, (u.list[i2]).count⟩ : DUse)].length) ([(⟨(u.list[i2]).key, (u.list[i2]).count⟩ : DUse)]), box B43 [Vi oc.room, .slice a48_8 (oc.list ++ [(⟨(u.list[i2]).key, (u.list[i2]).count⟩ : DUse)]).length c48_8] 54, own tUse S48_8 a48_8 c48_8 (oc.list ++ [(⟨(u.list[i2]).key, (u.list[i2]).count⟩ : DUse)]), box B2 [Vi 0, .slice none 0 0] 54, box B1 [Vi u.room, .slice au_0 u.list.length cu_0] 54, base w0]) (fun K hK49 => ?_) ?_
      ·refine c_held hmix [box B2 [Vi 0, .slice none 0 0] 54, box B1 [Vi u.room, .slice au_0 u.list.length cu_0] 54, base w0] rfl rfl ?_
       refine h_tk (i := 0) (ls := #[T1,F0,F0,F0,F0,F0,F0,F0,F0,F0,F0]) rfl (p_fieldAddr (j' := 1) rfl fo54_1 rfl) (dp (lz (lz (lj (lj (lj (ln))))))) ?_
       refine h_tk (i := 2) (ls := #[T1,F0,T1,F0,F0,F0,F0,F0,F0,F0,F0]) rfl (p_fieldAddr (j' := 1) rfl fo54_1 rfl) (dp (lz (lz (lj (lj (lj (ln))))))) ?_
       refine h_tk (i := 3) (ls := #[T1,F0,T1,T1,F0,F0,F0,F0,F0,F0,F0]) rfl (p_load (i := 1) (v := .slice au_0 u.list.length cu_0) rfl rfl sh52 rfl) (dp (lz (lz (lj (lj (lj (ln))))))) ?_
       refine h_tk (i := 4) (ls := #[T1,F0,T1,T1,T1,F0,F0,F0,F0,F0,F0]) rfl (p_move rfl) (dp (lz (lz (lj (lj (lj (ln))))))) ?_
       refine h_tk (i := 5) (ls := #[T1,F0,T1,T1,T1,T1,F0,F0,F0,F0,F0]) rfl (p_indexAddr (L := u.list) (T := tUse) (i := (i2 : Int)) rfl rfl (rd_base (i := 2) rfl hu_0) Tryz.underlying52 sz118 (by omega) (by omega)) (dp (lz (lz (lj (lj (lj (ln))))))) ?_
       refine h_tk (i := 6) (ls := #[T1,F0,T1,T1,T1,T1,T1,F0,F0,F0,F0]) rfl (p_loadEn (i := i2) (T := tUse) (L := u.list) (vs := [Vi ((u.list[i2]).key), Vi ((u.list[i2]).count)]) rfl (rd_base (i := 2) rfl hu_0) (by first | assumption | omega) sh118 rfl) (dp (lz (lz (lj (lj (lj (ln))))))) ?_
       refine h_two (i := 1) (j := 7) (ls := #[T1,T1,T1,T1,T1,T1,T1,F0,F0,F0,F0]) (ls' := #[T1,F0,T1,T1,T1,T1,T1,T1,F0,F0,F0]) (by kernel_rfl) rfl rfl rfl rfl ?_ ?_
       ·refine o_p (p_load (i := 0) (v := .slice aoc_0 oc.list.length coc_0) rfl rfl sh52 rfl) ?_
        refine o_nil ?_
        refine h_next (dp (lz (lz (lj (lj (lj (ln))))))) ?_
        refine h_one (i := 7) (ls := #[T1,T1,T1,T1,T1,T1,T1,T1,F0,F0,F0]) (by kernel_rfl) rfl rfl ?_
        refine o_buildSlice (m := 1) (T := tUse) (L := [(⟨(u.list[i2]).key, (u.list[i2]).count⟩ : DUse)]) (vs := [.agg #[Vi ((u.list[i2]).key), Vi ((u.list[i2]).count)]]) rfl rfl rfl rfl Tryz.underlying52 sz118 (by decide) ze118 rfl (by decide) rfl (fun S48_7 a48_7 => ?_)
        refine o_nil ?_
        refine h_next (dp (lz (lz (lz (lj (lj (lj (ln)))))))) ?_
        refine h_one (i := 8) (ls := #[T1,T1,T1,T1,T1,T1,T1,T1,T1,F0,F0]) (by kernel_rfl) rfl rfl ?_
        refine o_append (i := 2) (L := oc.list) (M := [(⟨(u.list[i2]).key, (u.list[i2]).count⟩ : DUse)]) (T := tUse) rfl rfl rfl (rd_own (i := 0) rfl) Tryz.underlying52 Tryz.underlying52 (by intro k h; cases h) el118 (by intro z; simp [tUse, one1]) (by decide) (by first | omega | (simp only [List.length_cons, List.length_nil]; omega) | (simp only [List.length_append, List.length_cons, List.length_nil, List.length_take, List.length_drop]; omega)) rfl (fun a48_8 c48_8 S48_8 => ?_)
        refine o_nil ?_
        refine h_next (dp (lz (lz (lz (lj (lj (lj (ln)))))))) ?_
        refine h_tk (i := 9) (ls := #[T1,T1,T1,T1,T1,T1,T1,T1,T1,T1,F0]) rfl (p_fieldAddr (j' := 1) rfl fo54_1 rfl) (dp (lz (lz (lz (lj (lj (lj (ln)))))))) ?_
        refine h_one (i := 10) (ls := #[T1,T1,T1,T1,T1,T1,T1,T1,T1,T1,T1]) (by kernel_rfl) rfl rfl ?_
        refine o_store (i := 1) (v := .slice a48_8 (oc.list ++ [(⟨(u.list[i2]).key, (u.list[i2]).count⟩ : DUse)]).length c48_8) (cs' := [Vi oc.room, .slice a48_8 (oc.list ++ [(⟨(u.list[i2]).key, (u.list[i2]).count⟩ : DUse)]).length c48_8]) rfl rfl rfl sz52 rfl rfl rfl ?_
        refine o_nil ?_
        refine h_next (dp (lz (lz (lz (lj (lj (lj (ln)))))))) ?_
        refine h_done (by kernel_rfl) ?_
        refine q_kont hK49 (S48_7, a48_7, a48_8, c48_8, S48_8) (sr (sr (sr (sr (sr (sr (sr (Sub.nil _)))))))) (pk [0, 1, 2, 3, 4, 5])
       ·refine o_buildSlice (m := 1) (T := tUse) (L := [(⟨(u.list[i2]).key, (u.list[i2]).count⟩ : DUse)]) (vs := [.agg #[Vi ((u.list[i2]).key), Vi ((u.list[i2]).count)]]) rfl rfl rfl rfl Tryz.underlying52 sz118 (by decide) ze118 rfl (by decide) rfl (fun S48_7 a48_7 => ?_)
        refine o_nil ?_
        refine h_next (dp (lz (lz (lz (lj (lj (lj (ln)))))))) ?_
        refine h_one (i := 1) (ls := #[T1,T1,T1,T1,T1,T1,T1,T1,F0,F0,F0]) (by kernel_rfl) rfl rfl ?_
        refine o_p (p_load (i := 1) (v := .slice aoc_0 oc.list.length coc_0) rfl rfl sh52 rfl) ?_
        refine o_nil ?_
        refine h_next (dp (lz (lz (lz (lj (lj (lj (ln)))))))) ?_
        refine h_one (i := 8) (ls := #[T1,T1,T1,T1,T1,T1,T1,T1,T1,F0,F0]) (by kernel_rfl) rfl rfl ?_
        refine o_append (i := 2) (L := oc.list) (M := [(⟨(u.list[i2]).key, (u.list[i2]).count⟩ : DUse)]) (T := tUse) rfl rfl rfl (rd_own (i := 0) rfl) Tryz.underlying52 Tryz.underlying52 (by intro k h; cases h) el118 (by intro z; simp [tUse, one1]) (by decide) (by first | omega | (simp only [List.length_cons, List.length_nil]; omega) | (simp only [List.length_append, List.length_cons, List.length_nil, List.length_take, List.length_drop]; omega)) rfl (fun a48_8 c48_8 S48_8 => ?_)
        refine o_nil ?_
        refine h_next (dp (lz (lz (lz (lj (lj (lj (ln)))))))) ?_
        refine h_tk (i := 9) (ls := #[T1,T1,T1,T1,T1,T1,T1,T1,T1,T1,F0]) rfl (p_fieldAddr (j' := 1) rfl fo54_1 rfl) (dp (lz (lz (lz (lj (lj (lj (ln)))))))) ?_
        refine h_one (i := 10) (ls := #[T1,T1,T1,T1,T1,T1,T1,T1,T1,T1,T1]) (by kernel_rfl) rfl rfl ?_
        refine o_store (i := 1) (v := .slice a48_8 (oc.list ++ [(⟨(u.list[i2]).key, (u.list[i2]).count⟩ : DUse)]).length c48_8) (cs' := [Vi oc.room, .slice a48_8 (oc.list ++ [(⟨(u.list[i2]).key, (u.list[i2]).count⟩ : DUse)]).length c48_8]) rfl rfl rfl sz52 rfl rfl rfl ?_
        refine o_nil ?_
        refine h_next (dp (lz (lz (lz (lj (lj (lj (ln)))))))) ?_
        refine h_done (by kernel_rfl) ?_
        refine q_kont hK49 (S48_7, a48_7, a48_8, c48_8, S48_8) (sr (sr (sr (sr (sr (sr (sr (Sub.nil _)))))))) (pk [0, 1, 2, 3, 4, 5])
      rintro ⟨S48_7, a48_7, a48_8, c48_8, S48_8⟩
      show SQ _ 96 w0 _ _ [(1, Vi key), (2, .pointer (some ⟨B1, 0, none⟩)), (4, .pointer (some ⟨B2, 0, none⟩)), (8, Vi (-1)), (9, .bool hit), (11, .pointer (some ⟨B43, 0, none⟩)), (12, Vi (i2 : Int))] [own tUse S48_7 a48_7 ([(⟨(u.list[i2]).key, (u.list[i2]).count⟩ : DUse)].length) ([(⟨(u.list[i2]).key, (u.list[i2]).count⟩ : DUse)]), box B43 [Vi oc.room, .slice a48_8 (oc.list ++ [(⟨(u.list[i2]).key, (u.list[i2]).count⟩ : DUse)]).length c48_8] 54, own tUse S48_8 a48_8 c48_8 (oc.list ++ [(⟨(u.list[i2]).key, (u.list[i2]).count⟩ : DUse)]), box B2 [Vi 0, .slice none 0 0] 54, box B1 [Vi u.room, .slice au_0 u.list.length cu_0] 54, base w0]
      refine q_cast (F' := [(1, Vi key), (2, .pointer (some ⟨B1, 0, none⟩)), (4, .pointer (some ⟨B2, 0, none⟩)), (8, Vi (-1)), (9, .bool hit), (11, .pointer (some ⟨B43, 0, none⟩)), (12, Vi (i2 : Int))]) (H := [own tUse S48_7 a48_7 ([(⟨(u.list[i2]).key, (u.list[i2]).count⟩ : DUse)].length) ([(⟨(u.list[i2]).key, (u.list[i2]).count⟩ : DUse)]), box B43 [Vi oc.room, .slice a48_8 (oc.list ++ [(⟨(u.list[i2]).key, (u.list[i2]).count⟩ : DUse)]).length c48_8] 54, own tUse S48_8 a48_8 c48_8 (oc.list ++ [(⟨(u.list[i2]).key, (u.list[i2]).count⟩ : DUse)]), box B2 [Vi 0, .slice none 0 0] 54, box B1 [Vi u.room, .slice au_0 u.list.length cu_0] 54, base w0]) (H' := [own tUse S48_7 a48_7 ([(⟨(u.list[i2]).key, (u.list[i2]).count⟩ : DUse)].length) ([(⟨(u.list[i2]).key, (u.list[i2]).count⟩ : DUse)]), box B43 [Vi oc.room, .slice a48_8 (oc.list ++ [(⟨(u.list[i2]).key, (u.list[i2]).count⟩ : DUse)]).length c48_8] 54, own tUse S48_8 a48_8 c48_8 (oc.list ++ [(⟨(u.list[i2]).key, (u.list[i2]).count⟩ : DUse)]), box B2 [Vi 0, .slice none 0 0] 54, box B1 [Vi u.room, .slice au_0 u.list.length cu_0] 54, base w0]) (sr (sr (sr (sr (sr (sr (sr (Sub.nil _)))))))) (by rfl) ?_
      refine q_block_normal (q_then ?_)
      refine c_region ?_
      refine o_mv rfl rfl ?_
      refine o_p (p_addb rfl rfl (by omega)) ?_
      refine o_as rfl rfl ?_
      refine o_nil ?_
      refine q_round hK44 (i2 + 1, (⟨oc.room, (oc.list ++ [(⟨(u.list[i2]).key, (u.list[i2]).count⟩ : DUse)])⟩ : DUses), a48_8, c48_8, S48_8) ?_ ?_ ?_ ?_
      ·clear hK44
       first | exact hI.add hgo (by omega) (by simp_all) (by simp_all) | exact hI.drop hgo (by omega) (by grind)
      ·(try dsimp only); omega
      ·exact sr (sr (sr (sr (sr (sr (sr (Sub.nil _)))))))
      ·exact pk [1, 2, 3, 4, 5]
     ·simp only [Bool.and_eq_false_iff, bne_eq_false_iff_eq] at hc47
      refine c_skip ?_
      refine q_block_normal (q_then ?_)
      refine c_region ?_
      refine o_mv rfl rfl ?_
      refine o_p (p_addb rfl rfl (by omega)) ?_
      refine o_as rfl rfl ?_
      refine o_nil ?_
      refine q_round hK44 (i2 + 1, oc, aoc_0, coc_0, Soc_0) ?_ ?_ ?_ ?_
      ·clear hK44
       first | exact hI.add hgo (by omega) (by simp_all) (by simp_all) | exact hI.drop hgo (by omega) (by grind)
      ·(try dsimp only); omega
      ·exact sr (sr (sr (sr (sr (sr (sr (Sub.nil _)))))))
      ·exact pk [0, 1, 2, 3, 4]
    ·simp only [decide_eq_false_iff_not, Int.not_lt] at hc45
     refine c_exit ?_
     refine q_then_exit (q_then_exit (q_block_exit (q_then ?_)))
     refine c_seq (c_region ?_)
     refine o_p (p_load_agg (i := 0) (vs := [Vi oc.room, .slice aoc_0 oc.list.length coc_0]) rfl rfl sh54 rfl rfl) ?_
     refine o_mv rfl rfl ?_
     refine o_mv rfl rfl ?_
     refine o_storeN (i := 2) (vs := [Vi oc.room, .slice aoc_0 oc.list.length coc_0]) (cs' := [Vi oc.room, .slice aoc_0 oc.list.length coc_0]) rfl rfl rfl sz54 rfl rfl rfl rfl ?_
     refine o_as rfl rfl ?_
     refine o_as rfl rfl ?_
     refine o_nil (q_then (c_ret ?_))
     have hd := hI.done hy1 (by omega)
     have hr0 : (oc.room : Int) = ((Lfu.touch u key).1).room := by
      first | (rw [hd]; done) | (rw [← hd]; done) | exact hgo | exact Lfu.ref_is hA (by omega) hy1
     have hr1 : (oc.list : List DUse) = ((Lfu.touch u key).1).list := by
      first | (rw [hd]; done) | (rw [← hd]; done) | exact hgo | exact Lfu.ref_is hA (by omega) hy1
     have hr2 : (hit : Bool) = ((Lfu.touch u key).2.1) := by
      first | (rw [hd]; done) | (rw [← hd]; done) | exact hgo | exact Lfu.ref_is hA (by omega) hy1
     have hr3 : ((-1) : Int) = ((Lfu.touch u key).2.2) := by
      first | (rw [hd]; done) | (rw [← hd]; done) | exact hgo | exact Lfu.ref_is hA (by omega) hy1
     refine q_endM (p := (aoc_0, coc_0)) Soc_0 (rt3 rfl (r_cell (i := 2) rfl rfl sh54 rfl) (r_tmp rfl) (r_tmp rfl)) (i := 4) rfl ?_ ?_ ?_
     ·exact (by have hcc := congr (congr (congr (congrArg (fun (y0 : Int) (y1 : List DUse) (y2 : Bool) (y3 : Int) => (.tuple #[.agg #[.int .i64 y0, .slice aoc_0 y1.length coc_0], .bool y2, .int .i64 y3] : Value)) hr0) hr1) hr2) hr3; exact hcc)
     ·exact fun w hw => hw.above (i := 4) (j := 1) (by decide) rfl rfl
     ·intro w hw; exact Eq.mp (congrArg (fun y => SlO tUse _ w aoc_0 coc_0 y) hr1) ((hw.at (i := 1) rfl).here)

set_option maxHeartbeats 8000000 in
set_option maxRecDepth 100000 in
theorem rfrun_ok (u : DUses) (au_0 : Option Addr) (cu_0 : Nat) (l : List Int) (al : Option Addr) (cl : Nat) (hy1 : Lfu.Ok u ∧ ∀ x ∈ l, Lru.okKey x = true) : FnM Tryz.prog 25 [.agg #[Vi u.room, .slice au_0 u.list.length cu_0], .slice al l.length cl] (fun w => Rd tUse w au_0 cu_0 u.list ∧ Rd tInt w al cl l) (Option Addr × Nat) (fun p => .tuple #[.agg #[Vi (((Lfu.runGo u 0 l).1).room), .slice p.1 (((Lfu.runGo u 0 l).1).list).length p.2], Vi ((Lfu.runGo u 0 l).2)]) (fun p S w => (SlR tUse S w p.1 p.2 (((Lfu.runGo u 0 l).1).list) ∨ (p.1 = au_0 ∧ p.2 = cu_0 ∧ (((Lfu.runGo u 0 l).1).list) = u.list))) := by
 refine fnM (nt := 33) (F0 := [(0, .agg #[Vi u.room, .slice au_0 u.list.length cu_0]), (1, .slice al l.length cl)]) Tryz.func25 rfl Tryz.ntmps25 rfl rfl (fun w0 hpre => ?_)
 obtain ⟨hu_0, hl⟩ := hpre
 have hlhu_0 := hu_0.2.1
 have hlhl := hl.2.1
 refine c_seq (c_region ?_)
 refine o_box (v := .agg #[Vi u.room, .slice au_0 u.list.length cu_0]) rfl rfl (fun B1 => ?_)
 refine o_alloc ze54 rfl (fun B2 => ?_)
 refine o_as rfl rfl ?_
 refine o_nil (q_then (c_seq (c_region ?_)))
 refine o_as rfl rfl ?_
 refine o_nil (q_then (c_seq (c_seq (c_region ?_))))
 refine o_as rfl rfl ?_
 refine o_nil (q_then (c_block ?_))
 refine c_heap (H' := [loose tUse (au_0 = au_0 ∧ cu_0 = cu_0 ∧ u.list = u.list) (fun _ => False) au_0 cu_0 u.list, box B2 [Vi 0, .slice none 0 0] 54, box B1 [Vi u.room, .slice au_0 u.list.length cu_0] 54, base w0]) (fun w hw => HeapIs.looseOf ⟨rfl, rfl, rfl⟩ hw) ?_
 refine c_loop (St := Int × Nat × DUses × Option Addr × Nat × (Nat → Prop))
  (fun ⟨hits, i, cc, acc_0, ccc_0, Scc_0⟩ => [(1, .slice al l.length cl), (2, .pointer (some ⟨B1, 0, none⟩)), (4, .pointer (some ⟨B2, 0, none⟩)), (6, Vi hits), (7, Vi (i : Int))])
  (fun ⟨hits, i, cc, acc_0, ccc_0, Scc_0⟩ => [loose tUse (acc_0 = au_0 ∧ ccc_0 = cu_0 ∧ cc.list = u.list) Scc_0 acc_0 ccc_0 cc.list, box B2 [Vi 0, .slice none 0 0] 54, box B1 [Vi cc.room, .slice acc_0 cc.list.length ccc_0] 54, base w0])
  (fun ⟨hits, i, cc, acc_0, ccc_0, Scc_0⟩ => Lfu.RInv u cc l hits i)
  (fun ⟨hits, i, cc, acc_0, ccc_0, Scc_0⟩ => l.length - i)
  (0, 0, u, au_0, cu_0, (fun _ => False)) ?_ (sr (sr (sr (sr (sr (Sub.nil _)))))) (fun _ hw => hw) ?_
 ·exact Lfu.RInv.start hy1.1 hy1.2
 rintro ⟨hits, i, cc, acc_0, ccc_0, Scc_0⟩ hI K hK4
 have hn0 := hI.n0
 have hn1 := hI.n1
 show SC _ _ Tryz.prog 33 w0 _ _ [(1, .slice al l.length cl), (2, .pointer (some ⟨B1, 0, none⟩)), (4, .pointer (some ⟨B2, 0, none⟩)), (6, Vi hits), (7, Vi (i : Int))] [loose tUse (acc_0 = au_0 ∧ ccc_0 = cu_0 ∧ cc.list = u.list) Scc_0 acc_0 ccc_0 cc.list, box B2 [Vi 0, .slice none 0 0] 54, box B1 [Vi cc.room, .slice acc_0 cc.list.length ccc_0] 54, base w0]
 refine c_seq (c_seq (c_region ?_))
 refine o_mv rfl rfl ?_
 refine o_mv rfl rfl ?_
 refine o_p (p_len_slice rfl rfl Tryz.underlying22) ?_
 refine o_p (p_lt rfl rfl) ?_
 refine o_nil (q_then ?_)
 refine c_cond rfl (fun hc5 => ?_) (fun hc5 => ?_)
 ·simp only [decide_eq_true_eq] at hc5
  refine c_skip (q_then (c_seq (c_block (c_seq ?_))))
  refine c_cut (G := (Nat → Prop) × Option Addr × Nat × Nat) (fun ⟨S6_5, a6_5, c6_5, B6_10⟩ => [(1, .slice al l.length cl), (2, .pointer (some ⟨B1, 0, none⟩)), (4, .pointer (some ⟨B2, 0, none⟩)), (6, Vi hits), (7, Vi (i : Int)), (8, .pointer (some ⟨B6_10, 0, none⟩)), (9, .bool ((Lfu.touch cc (l[i])).2.1))]) (fun ⟨S6_5, a6_5, c6_5, B6_10⟩ => [box B6_10 [Vi (((Lfu.touch cc (l[i])).1).room), .slice a6_5 (((Lfu.touch cc (l[i])).1).list).length c6_5] 54, own tUse S6_5 a6_5 c6_5 (((Lfu.touch cc (l[i])).1).list), loose tUse (acc_0 = au_0 ∧ ccc_0 = cu_0 ∧ cc.list = u.list) Scc_0 acc_0 ccc_0 cc.list, box B2 [Vi 0, .slice none 0 0] 54, box B1 [Vi cc.room, .slice acc_0 cc.list.length ccc_0] 54, base w0]) (fun K hK7 => ?_) ?_
  ·refine c_held hmix [loose tUse (acc_0 = au_0 ∧ ccc_0 = cu_0 ∧ cc.list = u.list) Scc_0 acc_0 ccc_0 cc.list, box B2 [Vi 0, .slice none 0 0] 54, box B1 [Vi cc.room, .slice acc_0 cc.list.length ccc_0] 54, base w0] rfl rfl ?_
   refine h_t0 (i := 0) (ls := #[T1,F0,F0,F0,F0,F0,F0,F0,F0,F0,F0,F0,F0,F0]) rfl (p_load_agg (i := 2) (vs := [Vi cc.room, .slice acc_0 cc.list.length ccc_0]) rfl rfl sh54 rfl rfl) ?_
   refine h_t0 (i := 1) (ls := #[T1,T1,F0,F0,F0,F0,F0,F0,F0,F0,F0,F0,F0,F0]) rfl (p_move rfl) ?_
   refine h_t0 (i := 2) (ls := #[T1,T1,T1,F0,F0,F0,F0,F0,F0,F0,F0,F0,F0,F0]) rfl (p_move rfl) ?_
   refine h_t0 (i := 3) (ls := #[T1,T1,T1,T1,F0,F0,F0,F0,F0,F0,F0,F0,F0,F0]) rfl (p_indexAddr (L := l) (T := tInt) (i := (i : Int)) rfl rfl (rd_base (i := 3) rfl hl) Tryz.underlying22 sz3 (by omega) (by omega)) ?_
   refine h_t0 (i := 4) (ls := #[T1,T1,T1,T1,T1,F0,F0,F0,F0,F0,F0,F0,F0,F0]) rfl (p_loadE1 (i := i) (T := tInt) (L := l) (v := Vi (l[i])) rfl (rd_base (i := 3) rfl hl) (by first | assumption | omega) sh3 rfl) ?_
   refine h_two (i := 5) (j := 10) (ls := #[T1,T1,T1,T1,T1,T1,F0,F0,F0,F0,F0,F0,F0,F0]) (ls' := #[T1,T1,T1,T1,T1,F0,F0,F0,F0,F0,T1,F0,F0,F0]) (by kernel_rfl) rfl rfl rfl rfl ?_ ?_
   ·refine o_callM rfl (rftouch_ok cc acc_0 ccc_0 (l[i]) (by first | assumption | exact hI.ok | omega)) hf44 (fun w hw => (rd_loose (i := 0) rfl (fun hφ => by obtain ⟨h1, h2, h3⟩ := hφ; intro w hw; have g1 : acc_0 = au_0 := h1; have g2 : ccc_0 = cu_0 := h2; have g3 : cc.list = u.list := h3; rw [g1, g2, g3]; exact (rd_base (i := 3) rfl hu_0) w hw)) w hw) rfl (fun _ _ _ _ ha hA => SlO.agree ha hA) ?_
    rintro ⟨a6_5, c6_5⟩ S6_5
    refine o_know (fun w hw => own_len (i := 0) (T := tUse) hw rfl) (fun hlr6_5 => ?_)
    refine o_nil ?_
    refine h_next (dp (lz (lj (lj (lj (lj (ln))))))) ?_
    refine h_tk (i := 6) (ls := #[T1,T1,T1,T1,T1,T1,T1,F0,F0,F0,F0,F0,F0,F0]) rfl (p_move rfl) (dp (lz (lj (lj (lj (lj (ln))))))) ?_
    refine h_tk (i := 7) (ls := #[T1,T1,T1,T1,T1,T1,T1,T1,F0,F0,F0,F0,F0,F0]) rfl (p_extract rfl rfl) (dp (lz (lj (lj (lj (lj (ln))))))) ?_
    refine h_tk (i := 8) (ls := #[T1,T1,T1,T1,T1,T1,T1,T1,T1,F0,F0,F0,F0,F0]) rfl (p_extract rfl rfl) (dp (lz (lj (lj (lj (lj (ln))))))) ?_
    refine h_tk (i := 9) (ls := #[T1,T1,T1,T1,T1,T1,T1,T1,T1,T1,F0,F0,F0,F0]) rfl (p_extract rfl rfl) (dp (lz (lj (lj (lj (lj (ln))))))) ?_
    refine h_one (i := 10) (ls := #[T1,T1,T1,T1,T1,T1,T1,T1,T1,T1,T1,F0,F0,F0]) (by kernel_rfl) rfl rfl ?_
    refine o_alloc ze54 rfl (fun B6_10 => ?_)
    refine o_nil ?_
    refine h_next (dp (lz (lz (lj (lj (lj (lj (ln)))))))) ?_
    refine h_one (i := 11) (ls := #[T1,T1,T1,T1,T1,T1,T1,T1,T1,T1,T1,T1,F0,F0]) (by kernel_rfl) rfl rfl ?_
    refine o_storeN (i := 0) (vs := [Vi (((Lfu.touch cc (l[i])).1).room), .slice a6_5 (((Lfu.touch cc (l[i])).1).list).length c6_5]) (cs' := [Vi (((Lfu.touch cc (l[i])).1).room), .slice a6_5 (((Lfu.touch cc (l[i])).1).list).length c6_5]) rfl rfl rfl sz54 rfl rfl rfl rfl ?_
    refine o_nil ?_
    refine h_next (dp (lz (lz (lj (lj (lj (lj (ln)))))))) ?_
    refine h_tk (i := 12) (ls := #[T1,T1,T1,T1,T1,T1,T1,T1,T1,T1,T1,T1,T1,F0]) rfl (p_assign rfl) (dp (lz (lz (lj (lj (lj (lj (ln)))))))) ?_
    refine h_tk (i := 13) (ls := #[T1,T1,T1,T1,T1,T1,T1,T1,T1,T1,T1,T1,T1,T1]) rfl (p_assign rfl) (dp (lz (lz (lj (lj (lj (lj (ln)))))))) ?_
    refine h_done (by kernel_rfl) ?_
    refine q_kont hK7 (S6_5, a6_5, c6_5, B6_10) (sr (sr (sr (sr (sr (sr (sr (Sub.nil _)))))))) (pk [0, 1, 2, 3, 4, 5])
   ·refine o_alloc ze54 rfl (fun B6_10 => ?_)
    refine o_nil ?_
    refine h_next (dp (lz (lj (lj (lj (lj (ln))))))) ?_
    refine h_one (i := 5) (ls := #[T1,T1,T1,T1,T1,T1,F0,F0,F0,F0,T1,F0,F0,F0]) (by kernel_rfl) rfl rfl ?_
    refine o_callM rfl (rftouch_ok cc acc_0 ccc_0 (l[i]) (by first | assumption | exact hI.ok | omega)) hf44 (fun w hw => (rd_loose (i := 1) rfl (fun hφ => by obtain ⟨h1, h2, h3⟩ := hφ; intro w hw; have g1 : acc_0 = au_0 := h1; have g2 : ccc_0 = cu_0 := h2; have g3 : cc.list = u.list := h3; rw [g1, g2, g3]; exact (rd_base (i := 4) rfl hu_0) w hw)) w hw) rfl (fun _ _ _ _ ha hA => SlO.agree ha hA) ?_
    rintro ⟨a6_5, c6_5⟩ S6_5
    refine o_know (fun w hw => own_len (i := 0) (T := tUse) hw rfl) (fun hlr6_5 => ?_)
    refine o_nil ?_
    refine h_next (dp (lz (lz (lj (lj (lj (lj (ln)))))))) ?_
    refine h_tk (i := 6) (ls := #[T1,T1,T1,T1,T1,T1,T1,F0,F0,F0,T1,F0,F0,F0]) rfl (p_move rfl) (dp (lz (lz (lj (lj (lj (lj (ln)))))))) ?_
    refine h_tk (i := 7) (ls := #[T1,T1,T1,T1,T1,T1,T1,T1,F0,F0,T1,F0,F0,F0]) rfl (p_extract rfl rfl) (dp (lz (lz (lj (lj (lj (lj (ln)))))))) ?_
    refine h_tk (i := 8) (ls := #[T1,T1,T1,T1,T1,T1,T1,T1,T1,F0,T1,F0,F0,F0]) rfl (p_extract rfl rfl) (dp (lz (lz (lj (lj (lj (lj (ln)))))))) ?_
    refine h_tk (i := 9) (ls := #[T1,T1,T1,T1,T1,T1,T1,T1,T1,T1,T1,F0,F0,F0]) rfl (p_extract rfl rfl) (dp (lz (lz (lj (lj (lj (lj (ln)))))))) ?_
    refine h_one (i := 11) (ls := #[T1,T1,T1,T1,T1,T1,T1,T1,T1,T1,T1,T1,F0,F0]) (by kernel_rfl) rfl rfl ?_
    refine o_storeN (i := 1) (vs := [Vi (((Lfu.touch cc (l[i])).1).room), .slice a6_5 (((Lfu.touch cc (l[i])).1).list).length c6_5]) (cs' := [Vi (((Lfu.touch cc (l[i])).1).room), .slice a6_5 (((Lfu.touch cc (l[i])).1).list).length c6_5]) rfl rfl rfl sz54 rfl rfl rfl rfl ?_
    refine o_nil ?_
    refine h_next (dp (lz (lz (lj (lj (lj (lj (ln)))))))) ?_
    refine h_tk (i := 12) (ls := #[T1,T1,T1,T1,T1,T1,T1,T1,T1,T1,T1,T1,T1,F0]) rfl (p_assign rfl) (dp (lz (lz (lj (lj (lj (lj (ln)))))))) ?_
    refine h_tk (i := 13) (ls := #[T1,T1,T1,T1,T1,T1,T1,T1,T1,T1,T1,T1,T1,T1]) rfl (p_assign rfl) (dp (lz (lz (lj (lj (lj (lj (ln)))))))) ?_
    refine h_done (by kernel_rfl) ?_
    refine q_kont hK7 (S6_5, a6_5, c6_5, B6_10) (sr (sr (sr (sr (sr (sr (sr (Sub.nil _)))))))) (pk [1, 0, 2, 3, 4, 5])
  rintro ⟨S6_5, a6_5, c6_5, B6_10⟩
  show SQ _ 33 w0 _ _ [(1, .slice al l.length cl), (2, .pointer (some ⟨B1, 0, none⟩)), (4, .pointer (some ⟨B2, 0, none⟩)), (6, Vi hits), (7, Vi (i : Int)), (8, .pointer (some ⟨B6_10, 0, none⟩)), (9, .bool ((Lfu.touch cc (l[i])).2.1))] [box B6_10 [Vi (((Lfu.touch cc (l[i])).1).room), .slice a6_5 (((Lfu.touch cc (l[i])).1).list).length c6_5] 54, own tUse S6_5 a6_5 c6_5 (((Lfu.touch cc (l[i])).1).list), loose tUse (acc_0 = au_0 ∧ ccc_0 = cu_0 ∧ cc.list = u.list) Scc_0 acc_0 ccc_0 cc.list, box B2 [Vi 0, .slice none 0 0] 54, box B1 [Vi cc.room, .slice acc_0 cc.list.length ccc_0] 54, base w0]
  refine q_know (fun w hw => own_len (i := 1) (T := tUse) hw rfl) (fun hlr8 => ?_)
  refine q_then (c_seq (c_seq (c_region ?_)))
  refine o_mv rfl rfl ?_
  refine o_nil (q_then ?_)
  refine c_cond rfl (fun hc9 => ?_) (fun hc9 => ?_)
  ·skip
   refine c_region ?_
   refine o_mv rfl rfl ?_
   refine o_p (p_addb rfl rfl (by omega)) ?_
   refine o_as rfl rfl ?_
   refine o_nil (q_then (c_region ?_))
   refine o_p (p_load_agg (i := 0) (vs := [Vi (((Lfu.touch cc (l[i])).1).room), .slice a6_5 (((Lfu.touch cc (l[i])).1).list).length c6_5]) rfl rfl sh54 rfl rfl) ?_
   refine o_storeN (i := 4) (vs := [Vi (((Lfu.touch cc (l[i])).1).room), .slice a6_5 (((Lfu.touch cc (l[i])).1).list).length c6_5]) (cs' := [Vi (((Lfu.touch cc (l[i])).1).room), .slice a6_5 (((Lfu.touch cc (l[i])).1).list).length c6_5]) rfl rfl rfl sz54 rfl rfl rfl rfl ?_
   refine o_nil ?_
   refine q_block_normal (q_then ?_)
   refine c_region ?_
   refine o_mv rfl rfl ?_
   refine o_p (p_addb rfl rfl (by omega)) ?_
   refine o_as rfl rfl ?_
   refine o_nil ?_
   refine q_heap (H' := [box B6_10 [Vi (((Lfu.touch cc (l[i])).1).room), .slice a6_5 (((Lfu.touch cc (l[i])).1).list).length c6_5] 54, loose tUse (a6_5 = au_0 ∧ c6_5 = cu_0 ∧ (((Lfu.touch cc (l[i])).1).list) = u.list) S6_5 a6_5 c6_5 (((Lfu.touch cc (l[i])).1).list), loose tUse (acc_0 = au_0 ∧ ccc_0 = cu_0 ∧ cc.list = u.list) Scc_0 acc_0 ccc_0 cc.list, box B2 [Vi 0, .slice none 0 0] 54, box B1 [Vi (((Lfu.touch cc (l[i])).1).room), .slice a6_5 (((Lfu.touch cc (l[i])).1).list).length c6_5] 54, base w0]) (fun w hw => HeapIs.toLoose (i := 1) (T := tUse) rfl hw) ?_
   refine q_round hK4 ((hits + 1), i + 1, ((Lfu.touch cc (l[i])).1), a6_5, c6_5, S6_5) ?_ ?_ ?_ ?_
   ·clear hK4
    first | exact hI.hit (by omega) (by assumption) | exact hI.miss (by omega) (by assumption)
   ·(try dsimp only); omega
   ·exact sr (sr (sr (sr (sr (Sub.nil _)))))
   ·exact pk [1, 3, 4, 5]
  ·skip
   refine c_skip (q_then (c_region ?_))
   refine o_p (p_load_agg (i := 0) (vs := [Vi (((Lfu.touch cc (l[i])).1).room), .slice a6_5 (((Lfu.touch cc (l[i])).1).list).length c6_5]) rfl rfl sh54 rfl rfl) ?_
   refine o_storeN (i := 4) (vs := [Vi (((Lfu.touch cc (l[i])).1).room), .slice a6_5 (((Lfu.touch cc (l[i])).1).list).length c6_5]) (cs' := [Vi (((Lfu.touch cc (l[i])).1).room), .slice a6_5 (((Lfu.touch cc (l[i])).1).list).length c6_5]) rfl rfl rfl sz54 rfl rfl rfl rfl ?_
   refine o_nil ?_
   refine q_block_normal (q_then ?_)
   refine c_region ?_
   refine o_mv rfl rfl ?_
   refine o_p (p_addb rfl rfl (by omega)) ?_
   refine o_as rfl rfl ?_
   refine o_nil ?_
   refine q_heap (H' := [box B6_10 [Vi (((Lfu.touch cc (l[i])).1).room), .slice a6_5 (((Lfu.touch cc (l[i])).1).list).length c6_5] 54, loose tUse (a6_5 = au_0 ∧ c6_5 = cu_0 ∧ (((Lfu.touch cc (l[i])).1).list) = u.list) S6_5 a6_5 c6_5 (((Lfu.touch cc (l[i])).1).list), loose tUse (acc_0 = au_0 ∧ ccc_0 = cu_0 ∧ cc.list = u.list) Scc_0 acc_0 ccc_0 cc.list, box B2 [Vi 0, .slice none 0 0] 54, box B1 [Vi (((Lfu.touch cc (l[i])).1).room), .slice a6_5 (((Lfu.touch cc (l[i])).1).list).length c6_5] 54, base w0]) (fun w hw => HeapIs.toLoose (i := 1) (T := tUse) rfl hw) ?_
   refine q_round hK4 (hits, i + 1, ((Lfu.touch cc (l[i])).1), a6_5, c6_5, S6_5) ?_ ?_ ?_ ?_
   ·clear hK4
    first | exact hI.hit (by omega) (by assumption) | exact hI.miss (by omega) (by assumption)
   ·(try dsimp only); omega
   ·exact sr (sr (sr (sr (sr (Sub.nil _)))))
   ·exact pk [1, 3, 4, 5]
 ·simp only [decide_eq_false_iff_not, Int.not_lt] at hc5
  refine c_exit ?_
  refine q_then_exit (q_then_exit (q_block_exit (q_then ?_)))
  refine c_seq (c_region ?_)
  refine o_p (p_load_agg (i := 2) (vs := [Vi cc.room, .slice acc_0 cc.list.length ccc_0]) rfl rfl sh54 rfl rfl) ?_
  refine o_mv rfl rfl ?_
  refine o_storeN (i := 1) (vs := [Vi cc.room, .slice acc_0 cc.list.length ccc_0]) (cs' := [Vi cc.room, .slice acc_0 cc.list.length ccc_0]) rfl rfl rfl sz54 rfl rfl rfl rfl ?_
  refine o_as rfl rfl ?_
  refine o_nil (q_then (c_ret ?_))
  have hd := hI.done (by omega)
  have hr0 : (cc.room : Int) = ((Lfu.runGo u 0 l).1).room := by
   simp only [hd]
  have hr1 : (cc.list : List DUse) = ((Lfu.runGo u 0 l).1).list := by
   simp only [hd]
  have hr2 : (hits : Int) = ((Lfu.runGo u 0 l).2) := by
   simp only [hd]
  refine q_endM (p := (acc_0, ccc_0)) Scc_0 (rt2 rfl (r_cell (i := 1) rfl rfl sh54 rfl) (r_tmp rfl)) (i := 3) rfl ?_ ?_ ?_
  ·exact (by have hcc := congr (congr (congrArg (fun (y0 : Int) (y1 : List DUse) (y2 : Int) => (.tuple #[.agg #[.int .i64 y0, .slice acc_0 y1.length ccc_0], .int .i64 y2] : Value)) hr0) hr1) hr2; exact hcc)
  ·exact fun w hw => hw.above (i := 3) (j := 0) (by decide) rfl rfl
  ·intro w hw; exact Eq.mp (congrArg (fun y => SlR tUse _ w acc_0 ccc_0 y ∨ (acc_0 = au_0 ∧ ccc_0 = cu_0 ∧ y = u.list)) hr1) (Or.imp (fun h => SlR.mono (fun b hb => by simp [hb]) h) id (hw.at (i := 0) rfl).here)
end Go.Proofs.YtfncgfcehkalnaaGreat

/- The walks, printed by a program from the translation and a specification. -/
namespace Go.Proofs.YtfncgfcehkalnaaGreat
open Go.Sx Go.RowKit
set_option maxHeartbeats 8000000 in
set_option maxRecDepth 100000 in
theorem butKey_ok (l : List Int) (al : Option Addr) (cl : Nat) (key : Int) (first : Int) (room : Int) (hy1 : 1 ≤ room ∧ l.length ≤ 1000) : FnX Tryz.prog 70 [.slice al l.length cl, Vi key, Vi first, Vi room] [] (fun w => SlR tInt (outer w []).S w al cl l) (Option Addr × Nat × (Nat → Prop) × Option Addr × Nat × (Nat → Prop)) (fun p => .tuple #[.slice p.1 ((Seg.but l key first).take room.toNat).length p.2.1, .slice p.2.2.2.1 ((Seg.but l key first).drop room.toNat).length p.2.2.2.2.1]) (fun p => [own tInt p.2.2.1 p.1 p.2.1 ((Seg.but l key first).take room.toNat), own tInt p.2.2.2.2.2 p.2.2.2.1 p.2.2.2.2.1 ((Seg.but l key first).drop room.toNat)]) := by
 refine fnX (nt := 51) (F0 := [(0, .slice al l.length cl), (1, Vi key), (2, Vi first), (3, Vi room)]) Tryz.func70 rfl Tryz.ntmps70 rfl rfl (fun w0 hpre => ?_)
 have hl := hpre
 have hlhl := hl.2.1
 refine c_seq (c_region ?_)
 refine o_as rfl rfl ?_
 refine o_as rfl rfl ?_
 refine o_nil (q_then (c_seq (c_region ?_)))
 refine o_as rfl rfl ?_
 refine o_as rfl rfl ?_
 refine o_nil (q_then (c_seq (c_seq (c_region ?_))))
 refine o_mv rfl rfl ?_
 refine o_p (p_ge rfl rfl) ?_
 refine o_nil (q_then ?_)
 refine c_cond rfl (fun hc1 => ?_) (fun hc1 => ?_)
 ·simp only [decide_eq_true_eq] at hc1
  refine c_region ?_
  refine o_mv rfl rfl ?_
  refine o_mv rfl rfl ?_
  refine o_buildSlice (m := 1) (T := tInt) (L := [first]) (vs := [Vi first]) rfl rfl rfl rfl Tryz.underlying22 sz3 (by decide) ze3 rfl (by decide) rfl (fun S2 a3 => ?_)
  refine o_ownNil tInt ?_
  refine o_append (i := 0) (L := []) (M := [first]) (T := tInt) rfl rfl rfl (rd_own (i := 1) rfl) Tryz.underlying22 Tryz.underlying22 (by intro k h; cases h) el3 (by intro z; simp [tInt, one1]) (by decide) (by first | omega | (simp only [List.length_cons, List.length_nil]; omega) | (simp only [List.length_append, List.length_cons, List.length_nil, List.length_take, List.length_drop]; omega)) rfl (fun a6 c7 S8 => ?_)
  refine o_as rfl rfl ?_
  refine o_nil (q_then (c_seq (c_seq (c_region ?_))))
  refine o_as rfl rfl ?_
  refine o_nil (q_then (c_block ?_))
  refine c_ownNil tInt ?_
  refine c_loop (St := List Int × Option Addr × Nat × (Nat → Prop) × List Int × Option Addr × Nat × (Nat → Prop) × Nat)
   (fun ⟨oo, aoo, coo, Soo, gg, agg, cgg, Sgg, i⟩ => [(0, .slice al l.length cl), (1, Vi key), (3, Vi room), (10, .slice aoo oo.length coo), (11, .slice agg gg.length cgg), (12, Vi (i : Int))])
   (fun ⟨oo, aoo, coo, Soo, gg, agg, cgg, Sgg, i⟩ => [own tInt Sgg agg cgg gg, own tInt Soo aoo coo oo, own tInt S2 a3 ([first].length) ([first]), outer w0 []])
   (fun ⟨oo, aoo, coo, Soo, gg, agg, cgg, Sgg, i⟩ => Seg.BI l key first room oo gg i)
   (fun ⟨oo, aoo, coo, Soo, gg, agg, cgg, Sgg, i⟩ => l.length - i)
   ([first], a6, c7, S8, [], none, 0, (fun _ => False), 0) ?_ (sr (sr (sr (sr (sr (sr (Sub.nil _))))))) (fun _ hw => hw) ?_
  ·first | exact Seg.BI.start1 hy1.1 (by omega) | exact Seg.BI.start2 hy1.1 (by omega)
  rintro ⟨oo, aoo, coo, Soo, gg, agg, cgg, Sgg, i⟩ hI K hK10
  have hbl := hI.len
  have hbi := hI.le
  show SC _ _ Tryz.prog 51 w0 _ _ [(0, .slice al l.length cl), (1, Vi key), (3, Vi room), (10, .slice aoo oo.length coo), (11, .slice agg gg.length cgg), (12, Vi (i : Int))] [own tInt Sgg agg cgg gg, own tInt Soo aoo coo oo, own tInt S2 a3 ([first].length) ([first]), outer w0 []]
  refine c_seq (c_seq (c_region ?_))
  refine o_mv rfl rfl ?_
  refine o_mv rfl rfl ?_
  refine o_p (p_len_slice rfl rfl Tryz.underlying22) ?_
  refine o_p (p_lt rfl rfl) ?_
  refine o_nil (q_then ?_)
  refine c_cond rfl (fun hc11 => ?_) (fun hc11 => ?_)
  ·simp only [decide_eq_true_eq] at hc11
   refine c_skip (q_then (c_seq (c_block (c_seq (c_seq (c_region ?_))))))
   refine o_mv rfl rfl ?_
   refine o_mv rfl rfl ?_
   refine o_p (p_indexAddr (L := l) (T := tInt) (i := (i : Int)) rfl rfl (rd_outer (i := 3) rfl hl) Tryz.underlying22 sz3 (by omega) (by omega)) ?_
   refine o_p (p_loadE1 (i := i) (T := tInt) (L := l) (v := Vi (l[i])) rfl (rd_outer (i := 3) rfl hl) (by first | assumption | omega) sh3 rfl) ?_
   refine o_mv rfl rfl ?_
   refine o_p (p_eq rfl rfl) ?_
   refine o_nil (q_then ?_)
   refine c_cond rfl (fun hc12 => ?_) (fun hc12 => ?_)
   ·simp only [beq_iff_eq] at hc12
    refine c_exit ?_
    refine q_then_exit (q_block_exit (q_then ?_))
    refine c_region ?_
    refine o_mv rfl rfl ?_
    refine o_p (p_addb rfl rfl (by omega)) ?_
    refine o_as rfl rfl ?_
    refine o_nil ?_
    refine q_round hK10 (oo, aoo, coo, Soo, gg, agg, cgg, Sgg, i + 1) ?_ ?_ ?_ ?_
    ·clear hK10
     first | exact hI.skip (by omega) (by assumption) | exact hI.add (by omega) (by assumption) (by assumption) | exact hI.drop (by omega) (by assumption) hy1.1 (by assumption)
    ·(try dsimp only); omega
    ·exact sr (sr (sr (sr (sr (sr (Sub.nil _))))))
    ·exact pk [0, 1, 2, 3]
   ·simp only [beq_eq_false_iff_ne, ne_eq] at hc12
    refine c_skip (q_then (c_seq (c_region ?_)))
    refine o_mv rfl rfl ?_
    refine o_p (p_len_slice rfl rfl Tryz.underlying22) ?_
    refine o_mv rfl rfl ?_
    refine o_p (p_lt rfl rfl) ?_
    refine o_nil (q_then ?_)
    refine c_cond rfl (fun hc13 => ?_) (fun hc13 => ?_)
    ·simp only [decide_eq_true_eq] at hc13
     refine c_region ?_
     refine o_mv rfl rfl ?_
     refine o_mv rfl rfl ?_
     refine o_mv rfl rfl ?_
     refine o_p (p_indexAddr (L := l) (T := tInt) (i := (i : Int)) rfl rfl (rd_outer (i := 3) rfl hl) Tryz.underlying22 sz3 (by omega) (by omega)) ?_
     refine o_p (p_loadE1 (i := i) (T := tInt) (L := l) (v := Vi (l[i])) rfl (rd_outer (i := 3) rfl hl) (by first | assumption | omega) sh3 rfl) ?_
     refine o_buildSlice (m := 1) (T := tInt) (L := [l[i]]) (vs := [Vi (l[i])]) rfl rfl rfl rfl Tryz.underlying22 sz3 (by decide) ze3 rfl (by decide) rfl (fun S14 a15 => ?_)
     refine o_append (i := 2) (L := oo) (M := [l[i]]) (T := tInt) rfl rfl rfl (rd_own (i := 0) rfl) Tryz.underlying22 Tryz.underlying22 (by intro k h; cases h) el3 (by intro z; simp [tInt, one1]) (by decide) (by first | omega | (simp only [List.length_cons, List.length_nil]; omega) | (simp only [List.length_append, List.length_cons, List.length_nil, List.length_take, List.length_drop]; omega)) rfl (fun a17 c18 S19 => ?_)
     refine o_as rfl rfl ?_
     refine o_nil ?_
     refine q_block_normal (q_then ?_)
     refine c_region ?_
     refine o_mv rfl rfl ?_
     refine o_p (p_addb rfl rfl (by omega)) ?_
     refine o_as rfl rfl ?_
     refine o_nil ?_
     refine q_round hK10 ((oo ++ [l[i]]), a17, c18, S19, gg, agg, cgg, Sgg, i + 1) ?_ ?_ ?_ ?_
     ·clear hK10
      first | exact hI.skip (by omega) (by assumption) | exact hI.add (by omega) (by assumption) (by assumption) | exact hI.drop (by omega) (by assumption) hy1.1 (by assumption)
     ·(try dsimp only); omega
     ·exact sr (sr (sr (sr (sr (sr (Sub.nil _))))))
     ·exact pk [1, 2, 3, 4]
    ·simp only [decide_eq_false_iff_not, Int.not_lt] at hc13
     refine c_region ?_
     refine o_mv rfl rfl ?_
     refine o_mv rfl rfl ?_
     refine o_mv rfl rfl ?_
     refine o_p (p_indexAddr (L := l) (T := tInt) (i := (i : Int)) rfl rfl (rd_outer (i := 3) rfl hl) Tryz.underlying22 sz3 (by omega) (by omega)) ?_
     refine o_p (p_loadE1 (i := i) (T := tInt) (L := l) (v := Vi (l[i])) rfl (rd_outer (i := 3) rfl hl) (by first | assumption | omega) sh3 rfl) ?_
     refine o_buildSlice (m := 1) (T := tInt) (L := [l[i]]) (vs := [Vi (l[i])]) rfl rfl rfl rfl Tryz.underlying22 sz3 (by decide) ze3 rfl (by decide) rfl (fun S20 a21 => ?_)
     refine o_append (i := 1) (L := gg) (M := [l[i]]) (T := tInt) rfl rfl rfl (rd_own (i := 0) rfl) Tryz.underlying22 Tryz.underlying22 (by intro k h; cases h) el3 (by intro z; simp [tInt, one1]) (by decide) (by first | omega | (simp only [List.length_cons, List.length_nil]; omega) | (simp only [List.length_append, List.length_cons, List.length_nil, List.length_take, List.length_drop]; omega)) rfl (fun a23 c24 S25 => ?_)
     refine o_as rfl rfl ?_
     refine o_nil ?_
     refine q_block_normal (q_then ?_)
     refine c_region ?_
     refine o_mv rfl rfl ?_
     refine o_p (p_addb rfl rfl (by omega)) ?_
     refine o_as rfl rfl ?_
     refine o_nil ?_
     refine q_round hK10 (oo, aoo, coo, Soo, (gg ++ [l[i]]), a23, c24, S25, i + 1) ?_ ?_ ?_ ?_
     ·clear hK10
      first | exact hI.skip (by omega) (by assumption) | exact hI.add (by omega) (by assumption) (by assumption) | exact hI.drop (by omega) (by assumption) hy1.1 (by assumption)
     ·(try dsimp only); omega
     ·exact sr (sr (sr (sr (sr (sr (Sub.nil _))))))
     ·exact pk [1, 2, 3, 4]
  ·simp only [decide_eq_false_iff_not, Int.not_lt] at hc11
   refine c_exit ?_
   refine q_then_exit (q_then_exit (q_block_exit (q_then ?_)))
   refine c_seq (c_region ?_)
   refine o_mv rfl rfl ?_
   refine o_mv rfl rfl ?_
   refine o_as rfl rfl ?_
   refine o_as rfl rfl ?_
   refine o_nil (q_then (c_ret ?_))
   have hr0 : (oo : List Int) = ((Seg.but l key first).take room.toNat) := by
    first | exact (hI.done (by omega)).1 | exact (hI.done (by omega)).2
   have hr1 : (gg : List Int) = ((Seg.but l key first).drop room.toNat) := by
    first | exact (hI.done (by omega)).1 | exact (hI.done (by omega)).2
   refine q_endX (p := (aoo, coo, Soo, agg, cgg, Sgg)) (rt2 rfl (r_tmp rfl) (r_tmp rfl)) ?_ (fun w hw => ?_)
   ·exact (by have hcc := congr (congrArg (fun (y0 : List Int) (y1 : List Int) => (.tuple #[.slice aoo y0.length coo, .slice agg y1.length cgg] : Value)) hr0) hr1; exact hcc)
   ·have h2 := hw.pick (H' := [outer w0 [], own tInt Soo aoo coo oo, own tInt Sgg agg cgg gg]) [3, 1, 0] (by decide) rfl
    exact Eq.mp (congrArg (fun z => HeapIs w0 ((outer w0 []) :: z) w) ((by have hcc := congr (congrArg (fun (y0 : List Int) (y1 : List Int) => ([own tInt Soo aoo coo y0, own tInt Sgg agg cgg y1] : List Ent)) hr0) hr1; exact hcc))) h2
 ·simp only [decide_eq_false_iff_not, Int.not_le] at hc1
  refine c_skip (q_then (c_seq (c_seq (c_region ?_))))
  refine o_as rfl rfl ?_
  refine o_nil (q_then (c_block ?_))
  refine c_ownNil tInt ?_
  refine c_ownNil tInt ?_
  refine c_loop (St := List Int × Option Addr × Nat × (Nat → Prop) × List Int × Option Addr × Nat × (Nat → Prop) × Nat)
   (fun ⟨oo, aoo, coo, Soo, gg, agg, cgg, Sgg, i⟩ => [(0, .slice al l.length cl), (1, Vi key), (3, Vi room), (10, .slice aoo oo.length coo), (11, .slice agg gg.length cgg), (12, Vi (i : Int))])
   (fun ⟨oo, aoo, coo, Soo, gg, agg, cgg, Sgg, i⟩ => [own tInt Sgg agg cgg gg, own tInt Soo aoo coo oo, outer w0 []])
   (fun ⟨oo, aoo, coo, Soo, gg, agg, cgg, Sgg, i⟩ => Seg.BI l key first room oo gg i)
   (fun ⟨oo, aoo, coo, Soo, gg, agg, cgg, Sgg, i⟩ => l.length - i)
   ([], none, 0, (fun _ => False), [], none, 0, (fun _ => False), 0) ?_ (sr (sr (sr (sr (sr (sr (Sub.nil _))))))) (fun _ hw => hw) ?_
  ·first | exact Seg.BI.start1 hy1.1 (by omega) | exact Seg.BI.start2 hy1.1 (by omega)
  rintro ⟨oo, aoo, coo, Soo, gg, agg, cgg, Sgg, i⟩ hI K hK28
  have hbl := hI.len
  have hbi := hI.le
  show SC _ _ Tryz.prog 51 w0 _ _ [(0, .slice al l.length cl), (1, Vi key), (3, Vi room), (10, .slice aoo oo.length coo), (11, .slice agg gg.length cgg), (12, Vi (i : Int))] [own tInt Sgg agg cgg gg, own tInt Soo aoo coo oo, outer w0 []]
  refine c_seq (c_seq (c_region ?_))
  refine o_mv rfl rfl ?_
  refine o_mv rfl rfl ?_
  refine o_p (p_len_slice rfl rfl Tryz.underlying22) ?_
  refine o_p (p_lt rfl rfl) ?_
  refine o_nil (q_then ?_)
  refine c_cond rfl (fun hc29 => ?_) (fun hc29 => ?_)
  ·simp only [decide_eq_true_eq] at hc29
   refine c_skip (q_then (c_seq (c_block (c_seq (c_seq (c_region ?_))))))
   refine o_mv rfl rfl ?_
   refine o_mv rfl rfl ?_
   refine o_p (p_indexAddr (L := l) (T := tInt) (i := (i : Int)) rfl rfl (rd_outer (i := 2) rfl hl) Tryz.underlying22 sz3 (by omega) (by omega)) ?_
   refine o_p (p_loadE1 (i := i) (T := tInt) (L := l) (v := Vi (l[i])) rfl (rd_outer (i := 2) rfl hl) (by first | assumption | omega) sh3 rfl) ?_
   refine o_mv rfl rfl ?_
   refine o_p (p_eq rfl rfl) ?_
   refine o_nil (q_then ?_)
   refine c_cond rfl (fun hc30 => ?_) (fun hc30 => ?_)
   ·simp only [beq_iff_eq] at hc30
    refine c_exit ?_
    refine q_then_exit (q_block_exit (q_then ?_))
    refine c_region ?_
    refine o_mv rfl rfl ?_
    refine o_p (p_addb rfl rfl (by omega)) ?_
    refine o_as rfl rfl ?_
    refine o_nil ?_
    refine q_round hK28 (oo, aoo, coo, Soo, gg, agg, cgg, Sgg, i + 1) ?_ ?_ ?_ ?_
    ·clear hK28
     first | exact hI.skip (by omega) (by assumption) | exact hI.add (by omega) (by assumption) (by assumption) | exact hI.drop (by omega) (by assumption) hy1.1 (by assumption)
    ·(try dsimp only); omega
    ·exact sr (sr (sr (sr (sr (sr (Sub.nil _))))))
    ·exact pk [0, 1, 2]
   ·simp only [beq_eq_false_iff_ne, ne_eq] at hc30
    refine c_skip (q_then (c_seq (c_region ?_)))
    refine o_mv rfl rfl ?_
    refine o_p (p_len_slice rfl rfl Tryz.underlying22) ?_
    refine o_mv rfl rfl ?_
    refine o_p (p_lt rfl rfl) ?_
    refine o_nil (q_then ?_)
    refine c_cond rfl (fun hc31 => ?_) (fun hc31 => ?_)
    ·simp only [decide_eq_true_eq] at hc31
     refine c_region ?_
     refine o_mv rfl rfl ?_
     refine o_mv rfl rfl ?_
     refine o_mv rfl rfl ?_
     refine o_p (p_indexAddr (L := l) (T := tInt) (i := (i : Int)) rfl rfl (rd_outer (i := 2) rfl hl) Tryz.underlying22 sz3 (by omega) (by omega)) ?_
     refine o_p (p_loadE1 (i := i) (T := tInt) (L := l) (v := Vi (l[i])) rfl (rd_outer (i := 2) rfl hl) (by first | assumption | omega) sh3 rfl) ?_
     refine o_buildSlice (m := 1) (T := tInt) (L := [l[i]]) (vs := [Vi (l[i])]) rfl rfl rfl rfl Tryz.underlying22 sz3 (by decide) ze3 rfl (by decide) rfl (fun S32 a33 => ?_)
     refine o_append (i := 2) (L := oo) (M := [l[i]]) (T := tInt) rfl rfl rfl (rd_own (i := 0) rfl) Tryz.underlying22 Tryz.underlying22 (by intro k h; cases h) el3 (by intro z; simp [tInt, one1]) (by decide) (by first | omega | (simp only [List.length_cons, List.length_nil]; omega) | (simp only [List.length_append, List.length_cons, List.length_nil, List.length_take, List.length_drop]; omega)) rfl (fun a35 c36 S37 => ?_)
     refine o_as rfl rfl ?_
     refine o_nil ?_
     refine q_block_normal (q_then ?_)
     refine c_region ?_
     refine o_mv rfl rfl ?_
     refine o_p (p_addb rfl rfl (by omega)) ?_
     refine o_as rfl rfl ?_
     refine o_nil ?_
     refine q_round hK28 ((oo ++ [l[i]]), a35, c36, S37, gg, agg, cgg, Sgg, i + 1) ?_ ?_ ?_ ?_
     ·clear hK28
      first | exact hI.skip (by omega) (by assumption) | exact hI.add (by omega) (by assumption) (by assumption) | exact hI.drop (by omega) (by assumption) hy1.1 (by assumption)
     ·(try dsimp only); omega
     ·exact sr (sr (sr (sr (sr (sr (Sub.nil _))))))
     ·exact pk [1, 2, 3]
    ·simp only [decide_eq_false_iff_not, Int.not_lt] at hc31
     refine c_region ?_
     refine o_mv rfl rfl ?_
     refine o_mv rfl rfl ?_
     refine o_mv rfl rfl ?_
     refine o_p (p_indexAddr (L := l) (T := tInt) (i := (i : Int)) rfl rfl (rd_outer (i := 2) rfl hl) Tryz.underlying22 sz3 (by omega) (by omega)) ?_
     refine o_p (p_loadE1 (i := i) (T := tInt) (L := l) (v := Vi (l[i])) rfl (rd_outer (i := 2) rfl hl) (by first | assumption | omega) sh3 rfl) ?_
     refine o_buildSlice (m := 1) (T := tInt) (L := [l[i]]) (vs := [Vi (l[i])]) rfl rfl rfl rfl Tryz.underlying22 sz3 (by decide) ze3 rfl (by decide) rfl (fun S38 a39 => ?_)
     refine o_append (i := 1) (L := gg) (M := [l[i]]) (T := tInt) rfl rfl rfl (rd_own (i := 0) rfl) Tryz.underlying22 Tryz.underlying22 (by intro k h; cases h) el3 (by intro z; simp [tInt, one1]) (by decide) (by first | omega | (simp only [List.length_cons, List.length_nil]; omega) | (simp only [List.length_append, List.length_cons, List.length_nil, List.length_take, List.length_drop]; omega)) rfl (fun a41 c42 S43 => ?_)
     refine o_as rfl rfl ?_
     refine o_nil ?_
     refine q_block_normal (q_then ?_)
     refine c_region ?_
     refine o_mv rfl rfl ?_
     refine o_p (p_addb rfl rfl (by omega)) ?_
     refine o_as rfl rfl ?_
     refine o_nil ?_
     refine q_round hK28 (oo, aoo, coo, Soo, (gg ++ [l[i]]), a41, c42, S43, i + 1) ?_ ?_ ?_ ?_
     ·clear hK28
      first | exact hI.skip (by omega) (by assumption) | exact hI.add (by omega) (by assumption) (by assumption) | exact hI.drop (by omega) (by assumption) hy1.1 (by assumption)
     ·(try dsimp only); omega
     ·exact sr (sr (sr (sr (sr (sr (Sub.nil _))))))
     ·exact pk [1, 2, 3]
  ·simp only [decide_eq_false_iff_not, Int.not_lt] at hc29
   refine c_exit ?_
   refine q_then_exit (q_then_exit (q_block_exit (q_then ?_)))
   refine c_seq (c_region ?_)
   refine o_mv rfl rfl ?_
   refine o_mv rfl rfl ?_
   refine o_as rfl rfl ?_
   refine o_as rfl rfl ?_
   refine o_nil (q_then (c_ret ?_))
   have hr0 : (oo : List Int) = ((Seg.but l key first).take room.toNat) := by
    first | exact (hI.done (by omega)).1 | exact (hI.done (by omega)).2
   have hr1 : (gg : List Int) = ((Seg.but l key first).drop room.toNat) := by
    first | exact (hI.done (by omega)).1 | exact (hI.done (by omega)).2
   refine q_endX (p := (aoo, coo, Soo, agg, cgg, Sgg)) (rt2 rfl (r_tmp rfl) (r_tmp rfl)) ?_ (fun w hw => ?_)
   ·exact (by have hcc := congr (congrArg (fun (y0 : List Int) (y1 : List Int) => (.tuple #[.slice aoo y0.length coo, .slice agg y1.length cgg] : Value)) hr0) hr1; exact hcc)
   ·have h2 := hw.pick (H' := [outer w0 [], own tInt Soo aoo coo oo, own tInt Sgg agg cgg gg]) [2, 1, 0] (by decide) rfl
    exact Eq.mp (congrArg (fun z => HeapIs w0 ((outer w0 []) :: z) w) ((by have hcc := congr (congrArg (fun (y0 : List Int) (y1 : List Int) => ([own tInt Soo aoo coo y0, own tInt Sgg agg cgg y1] : List Ent)) hr0) hr1; exact hcc))) h2

set_option maxHeartbeats 8000000 in
set_option maxRecDepth 100000 in
theorem rstouch_ok (h : DHalls) (ah_0 : Option Addr) (ch_0 : Nat) (ah_1 : Option Addr) (ch_1 : Nat) (key : Int) (hy1 : Seg.Ok h ∧ Lru.okKey key = true) : FnX Tryz.prog 45 [.agg #[Vi h.first, Vi h.second, .slice ah_0 h.young.length ch_0, .slice ah_1 h.old.length ch_1], Vi key] [] (fun w => SlR tInt (outer w []).S w ah_0 ch_0 h.young ∧ SlR tInt (outer w []).S w ah_1 ch_1 h.old) (Option Addr × Nat × (Nat → Prop) × Option Addr × Nat × (Nat → Prop) × Option Addr × Nat × (Nat → Prop)) (fun p => .tuple #[.agg #[Vi (((Seg.touch h key).1).first), Vi (((Seg.touch h key).1).second), .slice p.1 (((Seg.touch h key).1).young).length p.2.1, .slice p.2.2.2.1 (((Seg.touch h key).1).old).length p.2.2.2.2.1], .bool ((Seg.touch h key).2.1), .slice p.2.2.2.2.2.2.1 ((Seg.touch h key).2.2).length p.2.2.2.2.2.2.2.1]) (fun p => [own tInt p.2.2.1 p.1 p.2.1 (((Seg.touch h key).1).young), own tInt p.2.2.2.2.2.1 p.2.2.2.1 p.2.2.2.2.1 (((Seg.touch h key).1).old), own tInt p.2.2.2.2.2.2.2.2 p.2.2.2.2.2.2.1 p.2.2.2.2.2.2.2.1 ((Seg.touch h key).2.2)]) := by
 refine fnX (nt := 65) (F0 := [(0, .agg #[Vi h.first, Vi h.second, .slice ah_0 h.young.length ch_0, .slice ah_1 h.old.length ch_1]), (1, Vi key)]) Tryz.func45 rfl Tryz.ntmps45 rfl rfl (fun w0 hpre => ?_)
 obtain ⟨hh_0, hh_1⟩ := hpre
 have hlhh_0 := hh_0.2.1
 have hlhh_1 := hh_1.2.1
 have hfr := hy1.1.first
 have hse := hy1.1.second
 have hl1 := hy1.1.len1
 have hl2 := hy1.1.len2
 refine c_seq (c_region ?_)
 refine o_box (v := .agg #[Vi h.first, Vi h.second, .slice ah_0 h.young.length ch_0, .slice ah_1 h.old.length ch_1]) rfl rfl (fun B1 => ?_)
 refine o_alloc ze58 rfl (fun B2 => ?_)
 refine o_as rfl rfl ?_
 refine o_as rfl rfl ?_
 refine o_nil (q_then (c_seq (c_region ?_)))
 refine o_p (p_fieldAddr (j' := 0) rfl fo58_0 rfl) ?_
 refine o_p (p_load (i := 1) (v := Vi h.first) rfl rfl sh3 rfl) ?_
 refine o_p (p_fieldAddr (j' := 1) rfl fo58_1 rfl) ?_
 refine o_p (p_load (i := 1) (v := Vi h.second) rfl rfl sh3 rfl) ?_
 refine o_p (p_build (cells := [Vi h.first, Vi h.second, .slice none 0 0, .slice none 0 0]) fp58 ze58 rfl rfl) ?_
 refine o_alloc ze58 rfl (fun B3 => ?_)
 refine o_storeN (i := 0) (vs := [Vi h.first, Vi h.second, .slice none 0 0, .slice none 0 0]) (cs' := [Vi h.first, Vi h.second, .slice none 0 0, .slice none 0 0]) rfl rfl rfl sz58 rfl rfl rfl rfl ?_
 refine o_nil (q_then (c_seq (c_region ?_)))
 refine o_as rfl rfl ?_
 refine o_nil (q_then (c_seq (c_seq (c_region ?_))))
 refine o_p (p_fieldAddr (j' := 2) rfl fo58_2 rfl) ?_
 refine o_p (p_load (i := 2) (v := .slice ah_0 h.young.length ch_0) rfl rfl sh22 rfl) ?_
 refine o_mv rfl rfl ?_
 refine o_call0 (v := .bool (Ref.hasInt h.young key)) rfl (hasInt_ok h.young ah_0 ch_0 key) hf10 (fun w hw => (rd_outer (i := 3) rfl hh_0) w hw) rfl ?_
 refine o_mv rfl rfl ?_
 refine o_or (p := 23) 5 (Ref.hasInt h.old key) ?_ ?_ ?_
 ·intro hb4 hk
  skip
  refine o_unguard 18 rfl rfl ?_
  refine o_p (p_fieldAddr (j' := 3) rfl fo58_3 rfl) ?_
  refine o_unguard 18 rfl rfl ?_
  refine o_p (p_load (i := 2) (v := .slice ah_1 h.old.length ch_1) rfl rfl sh22 rfl) ?_
  refine o_unguard 18 rfl rfl ?_
  refine o_mv rfl rfl ?_
  refine o_unguard 18 rfl rfl ?_
  refine o_call0 (v := .bool (Ref.hasInt h.old key)) rfl (hasInt_ok h.old ah_1 ch_1 key) hf10 (fun w hw => (rd_outer (i := 3) rfl hh_1) w hw) rfl ?_
  refine o_pf rfl rfl rfl ?_
  exact o_sub (sr (Sub.skip rfl (Sub.skip rfl (Sub.skip rfl (Sub.skip rfl (Sub.skip rfl (Sub.skip rfl (Sub.refl _)))))))) hk
 ·intro hb4 hk
  refine o_guard_no rfl 18 rfl rfl rfl rfl rfl ?_
  refine o_guard_no rfl 18 rfl rfl rfl rfl rfl ?_
  refine o_guard_no rfl 18 rfl rfl rfl rfl rfl ?_
  refine o_guard_no rfl 18 rfl rfl rfl rfl rfl ?_
  refine o_pt rfl rfl rfl ?_
  exact o_sub (sr (Sub.skip rfl (Sub.skip rfl (Sub.skip rfl (Sub.skip rfl (Sub.skip rfl (Sub.skip rfl (Sub.refl _)))))))) hk
 refine o_nil (q_then ?_)
 refine c_cond rfl (fun hc5 => ?_) (fun hc5 => ?_)
 ·simp only [Bool.or_eq_true] at hc5
  have ht := Seg.ref_hit hy1.1 hy1.2 hc5
  refine c_seq (c_region ?_)
  refine o_p (p_fieldAddr (j' := 2) rfl fo58_2 rfl) ?_
  refine o_p (p_load (i := 2) (v := .slice ah_0 h.young.length ch_0) rfl rfl sh22 rfl) ?_
  refine o_mv rfl rfl ?_
  refine o_p (p_fieldAddr (j' := 0) rfl fo58_0 rfl) ?_
  refine o_p (p_load (i := 2) (v := Vi h.first) rfl rfl sh3 rfl) ?_
  refine o_callX (pre := []) (R := [box B3 [Vi h.first, Vi h.second, .slice none 0 0, .slice none 0 0] 58, box B2 [Vi 0, Vi 0, .slice none 0 0, .slice none 0 0] 58, box B1 [Vi h.first, Vi h.second, .slice ah_0 h.young.length ch_0, .slice ah_1 h.old.length ch_1] 58, outer w0 []]) rfl (butKey_ok h.young ah_0 ch_0 key ((-1) : Int) h.first (by omega)) hf70 rfl (fun w hw => (rdX (i := 3) (js := []) rfl (by decide) rfl (fun _ hA => slR_outer hh_0 hA)) w hw) rfl ?_
  rintro ⟨a6, c7, S8, a9, c10, S11⟩
  refine o_asH (H' := [own tInt S8 a6 c7 ((Seg.but h.young key ((-1) : Int)).take h.first.toNat), own tInt S11 a9 c10 ((Seg.but h.young key ((-1) : Int)).drop h.first.toNat), box B3 [Vi h.first, Vi h.second, .slice none 0 0, .slice none 0 0] 58, box B2 [Vi 0, Vi 0, .slice none 0 0, .slice none 0 0] 58, box B1 [Vi h.first, Vi h.second, .slice ah_0 h.young.length ch_0, .slice ah_1 h.old.length ch_1] 58, outer w0 []]) rfl ?_
  refine o_mv rfl rfl ?_
  refine o_ex rfl rfl rfl ?_
  refine o_ex rfl rfl rfl ?_
  refine o_p (p_fieldAddr (j' := 2) rfl fo58_2 rfl) ?_
  refine o_store (i := 2) (v := .slice a6 ((Seg.but h.young key ((-1) : Int)).take h.first.toNat).length c7) (cs' := [Vi h.first, Vi h.second, .slice a6 ((Seg.but h.young key ((-1) : Int)).take h.first.toNat).length c7, .slice none 0 0]) rfl rfl rfl sz22 rfl rfl rfl ?_
  refine o_nil (q_then (c_seq (c_region ?_)))
  refine o_p (p_fieldAddr (j' := 3) rfl fo58_3 rfl) ?_
  refine o_p (p_load (i := 4) (v := .slice ah_1 h.old.length ch_1) rfl rfl sh22 rfl) ?_
  refine o_mv rfl rfl ?_
  refine o_mv rfl rfl ?_
  refine o_p (p_fieldAddr (j' := 1) rfl fo58_1 rfl) ?_
  refine o_p (p_load (i := 4) (v := Vi h.second) rfl rfl sh3 rfl) ?_
  refine o_callX (pre := []) (R := [own tInt S8 a6 c7 ((Seg.but h.young key ((-1) : Int)).take h.first.toNat), own tInt S11 a9 c10 ((Seg.but h.young key ((-1) : Int)).drop h.first.toNat), box B3 [Vi h.first, Vi h.second, .slice a6 ((Seg.but h.young key ((-1) : Int)).take h.first.toNat).length c7, .slice none 0 0] 58, box B2 [Vi 0, Vi 0, .slice none 0 0, .slice none 0 0] 58, box B1 [Vi h.first, Vi h.second, .slice ah_0 h.young.length ch_0, .slice ah_1 h.old.length ch_1] 58, outer w0 []]) rfl (butKey_ok h.old ah_1 ch_1 key key h.second (by omega)) hf70 rfl (fun w hw => (rdX (i := 5) (js := []) rfl (by decide) rfl (fun _ hA => slR_outer hh_1 hA)) w hw) rfl ?_
  rintro ⟨a14, c15, S16, a17, c18, S19⟩
  refine o_asH (H' := [own tInt S16 a14 c15 ((Seg.but h.old key key).take h.second.toNat), own tInt S19 a17 c18 ((Seg.but h.old key key).drop h.second.toNat), own tInt S8 a6 c7 ((Seg.but h.young key ((-1) : Int)).take h.first.toNat), own tInt S11 a9 c10 ((Seg.but h.young key ((-1) : Int)).drop h.first.toNat), box B3 [Vi h.first, Vi h.second, .slice a6 ((Seg.but h.young key ((-1) : Int)).take h.first.toNat).length c7, .slice none 0 0] 58, box B2 [Vi 0, Vi 0, .slice none 0 0, .slice none 0 0] 58, box B1 [Vi h.first, Vi h.second, .slice ah_0 h.young.length ch_0, .slice ah_1 h.old.length ch_1] 58, outer w0 []]) rfl ?_
  refine o_mv rfl rfl ?_
  refine o_ex rfl rfl rfl ?_
  refine o_ex rfl rfl rfl ?_
  refine o_p (p_fieldAddr (j' := 3) rfl fo58_3 rfl) ?_
  refine o_store (i := 4) (v := .slice a14 ((Seg.but h.old key key).take h.second.toNat).length c15) (cs' := [Vi h.first, Vi h.second, .slice a6 ((Seg.but h.young key ((-1) : Int)).take h.first.toNat).length c7, .slice a14 ((Seg.but h.old key key).take h.second.toNat).length c15]) rfl rfl rfl sz22 rfl rfl rfl ?_
  refine o_as rfl rfl ?_
  refine o_nil (q_then (c_seq (c_region ?_)))
  refine o_p (p_load_agg (i := 4) (vs := [Vi h.first, Vi h.second, .slice a6 ((Seg.but h.young key ((-1) : Int)).take h.first.toNat).length c7, .slice a14 ((Seg.but h.old key key).take h.second.toNat).length c15]) rfl rfl sh58 rfl rfl) ?_
  refine o_mv rfl rfl ?_
  refine o_storeN (i := 5) (vs := [Vi h.first, Vi h.second, .slice a6 ((Seg.but h.young key ((-1) : Int)).take h.first.toNat).length c7, .slice a14 ((Seg.but h.old key key).take h.second.toNat).length c15]) (cs' := [Vi h.first, Vi h.second, .slice a6 ((Seg.but h.young key ((-1) : Int)).take h.first.toNat).length c7, .slice a14 ((Seg.but h.old key key).take h.second.toNat).length c15]) rfl rfl rfl sz58 rfl rfl rfl rfl ?_
  refine o_as rfl rfl ?_
  refine o_as rfl rfl ?_
  refine o_nil (q_then (c_ret ?_))
  refine q_then_ret ?_
  have hr0 : (h.first : Int) = ((Seg.touch h key).1).first := by
   first | (rw [ht]; done) | (rw [ht]; rfl)
  have hr1 : (h.second : Int) = ((Seg.touch h key).1).second := by
   first | (rw [ht]; done) | (rw [ht]; rfl)
  have hr2 : (((Seg.but h.young key ((-1) : Int)).take h.first.toNat) : List Int) = ((Seg.touch h key).1).young := by
   first | (rw [ht]; done) | (rw [ht]; rfl)
  have hr3 : (((Seg.but h.old key key).take h.second.toNat) : List Int) = ((Seg.touch h key).1).old := by
   first | (rw [ht]; done) | (rw [ht]; rfl)
  have hr4 : (true : Bool) = ((Seg.touch h key).2.1) := by
   first | (rw [ht]; done) | (rw [ht]; rfl)
  have hr5 : (((Seg.but h.old key key).drop h.second.toNat) : List Int) = ((Seg.touch h key).2.2) := by
   first | (rw [ht]; done) | (rw [ht]; rfl)
  refine q_endX (p := (a6, c7, S8, a14, c15, S16, a17, c18, S19)) (rt3 rfl (r_cell (i := 5) rfl rfl sh58 rfl) (r_tmp rfl) (r_tmp rfl)) ?_ (fun w hw => ?_)
  ·exact (by have hcc := congr (congr (congr (congr (congr (congrArg (fun (y0 : Int) (y1 : Int) (y2 : List Int) (y3 : List Int) (y4 : Bool) (y5 : List Int) => (.tuple #[.agg #[.int .i64 y0, .int .i64 y1, .slice a6 y2.length c7, .slice a14 y3.length c15], .bool y4, .slice a17 y5.length c18] : Value)) hr0) hr1) hr2) hr3) hr4) hr5; exact hcc)
  ·have h2 := hw.pick (H' := [outer w0 [], own tInt S8 a6 c7 ((Seg.but h.young key ((-1) : Int)).take h.first.toNat), own tInt S16 a14 c15 ((Seg.but h.old key key).take h.second.toNat), own tInt S19 a17 c18 ((Seg.but h.old key key).drop h.second.toNat)]) [7, 2, 0, 1] (by decide) rfl
   exact Eq.mp (congrArg (fun z => HeapIs w0 ((outer w0 []) :: z) w) ((by have hcc := congr (congr (congr (congr (congr (congrArg (fun (y0 : Int) (y1 : Int) (y2 : List Int) (y3 : List Int) (y4 : Bool) (y5 : List Int) => ([own tInt S8 a6 c7 y2, own tInt S16 a14 c15 y3, own tInt S19 a17 c18 y5] : List Ent)) hr0) hr1) hr2) hr3) hr4) hr5; exact hcc))) h2
 ·simp only [Bool.or_eq_false_iff] at hc5
  have ht := Seg.ref_miss hy1.2 hc5 hy1.1
  refine c_skip (q_then (c_seq (c_region ?_)))
  refine o_buildSlice (m := 0) (T := tInt) (L := []) (vs := []) rfl rfl rfl rfl Tryz.underlying22 sz3 (by decide) ze3 rfl (by decide) rfl (fun S22 a23 => ?_)
  refine o_p (p_fieldAddr (j' := 3) rfl fo58_3 rfl) ?_
  refine o_p (p_load (i := 3) (v := .slice ah_1 h.old.length ch_1) rfl rfl sh22 rfl) ?_
  refine o_append (i := 0) (L := []) (M := h.old) (T := tInt) rfl rfl rfl (rd_outer (i := 4) rfl hh_1) Tryz.underlying22 Tryz.underlying22 (by intro k h; cases h) el3 (by intro z; simp [tInt, one1]) (by decide) (by first | omega | (simp only [List.length_cons, List.length_nil]; omega) | (simp only [List.length_append, List.length_cons, List.length_nil, List.length_take, List.length_drop]; omega)) rfl (fun a25 c26 S27 => ?_)
  refine o_p (p_fieldAddr (j' := 3) rfl fo58_3 rfl) ?_
  refine o_store (i := 1) (v := .slice a25 h.old.length c26) (cs' := [Vi h.first, Vi h.second, .slice none 0 0, .slice a25 h.old.length c26]) rfl rfl rfl sz22 rfl rfl rfl ?_
  refine o_nil (q_then (c_seq (c_region ?_)))
  refine o_p (p_fieldAddr (j' := 2) rfl fo58_2 rfl) ?_
  refine o_p (p_load (i := 3) (v := .slice ah_0 h.young.length ch_0) rfl rfl sh22 rfl) ?_
  refine o_mv rfl rfl ?_
  refine o_mv rfl rfl ?_
  refine o_p (p_fieldAddr (j' := 0) rfl fo58_0 rfl) ?_
  refine o_p (p_load (i := 3) (v := Vi h.first) rfl rfl sh3 rfl) ?_
  refine o_callX (pre := []) (R := [own tInt S27 a25 c26 h.old, box B3 [Vi h.first, Vi h.second, .slice none 0 0, .slice a25 h.old.length c26] 58, box B2 [Vi 0, Vi 0, .slice none 0 0, .slice none 0 0] 58, box B1 [Vi h.first, Vi h.second, .slice ah_0 h.young.length ch_0, .slice ah_1 h.old.length ch_1] 58, outer w0 []]) rfl (butKey_ok h.young ah_0 ch_0 key key h.first (by omega)) hf70 rfl (fun w hw => (rdX (i := 4) (js := []) rfl (by decide) rfl (fun _ hA => slR_outer hh_0 hA)) w hw) rfl ?_
  rintro ⟨a28, c29, S30, a31, c32, S33⟩
  refine o_asH (H' := [own tInt S30 a28 c29 ((Seg.but h.young key key).take h.first.toNat), own tInt S33 a31 c32 ((Seg.but h.young key key).drop h.first.toNat), own tInt S27 a25 c26 h.old, box B3 [Vi h.first, Vi h.second, .slice none 0 0, .slice a25 h.old.length c26] 58, box B2 [Vi 0, Vi 0, .slice none 0 0, .slice none 0 0] 58, box B1 [Vi h.first, Vi h.second, .slice ah_0 h.young.length ch_0, .slice ah_1 h.old.length ch_1] 58, outer w0 []]) rfl ?_
  refine o_mv rfl rfl ?_
  refine o_ex rfl rfl rfl ?_
  refine o_ex rfl rfl rfl ?_
  refine o_p (p_fieldAddr (j' := 2) rfl fo58_2 rfl) ?_
  refine o_store (i := 3) (v := .slice a28 ((Seg.but h.young key key).take h.first.toNat).length c29) (cs' := [Vi h.first, Vi h.second, .slice a28 ((Seg.but h.young key key).take h.first.toNat).length c29, .slice a25 h.old.length c26]) rfl rfl rfl sz22 rfl rfl rfl ?_
  refine o_as rfl rfl ?_
  refine o_nil (q_then (c_seq (c_region ?_)))
  refine o_p (p_load_agg (i := 3) (vs := [Vi h.first, Vi h.second, .slice a28 ((Seg.but h.young key key).take h.first.toNat).length c29, .slice a25 h.old.length c26]) rfl rfl sh58 rfl rfl) ?_
  refine o_mv rfl rfl ?_
  refine o_storeN (i := 4) (vs := [Vi h.first, Vi h.second, .slice a28 ((Seg.but h.young key key).take h.first.toNat).length c29, .slice a25 h.old.length c26]) (cs' := [Vi h.first, Vi h.second, .slice a28 ((Seg.but h.young key key).take h.first.toNat).length c29, .slice a25 h.old.length c26]) rfl rfl rfl sz58 rfl rfl rfl rfl ?_
  refine o_as rfl rfl ?_
  refine o_as rfl rfl ?_
  refine o_nil (q_then (c_ret ?_))
  have hr0 : (h.first : Int) = ((Seg.touch h key).1).first := by
   first | (rw [ht]; done) | (rw [ht]; rfl)
  have hr1 : (h.second : Int) = ((Seg.touch h key).1).second := by
   first | (rw [ht]; done) | (rw [ht]; rfl)
  have hr2 : (((Seg.but h.young key key).take h.first.toNat) : List Int) = ((Seg.touch h key).1).young := by
   first | (rw [ht]; done) | (rw [ht]; rfl)
  have hr3 : (h.old : List Int) = ((Seg.touch h key).1).old := by
   first | (rw [ht]; done) | (rw [ht]; rfl)
  have hr4 : (false : Bool) = ((Seg.touch h key).2.1) := by
   first | (rw [ht]; done) | (rw [ht]; rfl)
  have hr5 : (((Seg.but h.young key key).drop h.first.toNat) : List Int) = ((Seg.touch h key).2.2) := by
   first | (rw [ht]; done) | (rw [ht]; rfl)
  refine q_endX (p := (a28, c29, S30, a25, c26, S27, a31, c32, S33)) (rt3 rfl (r_cell (i := 4) rfl rfl sh58 rfl) (r_tmp rfl) (r_tmp rfl)) ?_ (fun w hw => ?_)
  ·exact (by have hcc := congr (congr (congr (congr (congr (congrArg (fun (y0 : Int) (y1 : Int) (y2 : List Int) (y3 : List Int) (y4 : Bool) (y5 : List Int) => (.tuple #[.agg #[.int .i64 y0, .int .i64 y1, .slice a28 y2.length c29, .slice a25 y3.length c26], .bool y4, .slice a31 y5.length c32] : Value)) hr0) hr1) hr2) hr3) hr4) hr5; exact hcc)
  ·have h2 := hw.pick (H' := [outer w0 [], own tInt S30 a28 c29 ((Seg.but h.young key key).take h.first.toNat), own tInt S27 a25 c26 h.old, own tInt S33 a31 c32 ((Seg.but h.young key key).drop h.first.toNat)]) [6, 0, 2, 1] (by decide) rfl
   exact Eq.mp (congrArg (fun z => HeapIs w0 ((outer w0 []) :: z) w) ((by have hcc := congr (congr (congr (congr (congr (congrArg (fun (y0 : Int) (y1 : Int) (y2 : List Int) (y3 : List Int) (y4 : Bool) (y5 : List Int) => ([own tInt S30 a28 c29 y2, own tInt S27 a25 c26 y3, own tInt S33 a31 c32 y5] : List Ent)) hr0) hr1) hr2) hr3) hr4) hr5; exact hcc))) h2

set_option maxHeartbeats 8000000 in
set_option maxRecDepth 100000 in
theorem rsrun_ok (h : DHalls) (ah_0 : Option Addr) (ch_0 : Nat) (ah_1 : Option Addr) (ch_1 : Nat) (l : List Int) (al : Option Addr) (cl : Nat) (hy1 : Seg.Ok h ∧ ∀ x ∈ l, Lru.okKey x = true) : FnM Tryz.prog 26 [.agg #[Vi h.first, Vi h.second, .slice ah_0 h.young.length ch_0, .slice ah_1 h.old.length ch_1], .slice al l.length cl] (fun w => Rd tInt w ah_0 ch_0 h.young ∧ Rd tInt w ah_1 ch_1 h.old ∧ Rd tInt w al cl l) (Option Addr × Nat × Option Addr × Nat) (fun p => .tuple #[.agg #[Vi (((Seg.runGo h 0 l).1).first), Vi (((Seg.runGo h 0 l).1).second), .slice p.1 (((Seg.runGo h 0 l).1).young).length p.2.1, .slice p.2.2.1 (((Seg.runGo h 0 l).1).old).length p.2.2.2], Vi ((Seg.runGo h 0 l).2)]) (fun p S w => (SlR tInt S w p.1 p.2.1 (((Seg.runGo h 0 l).1).young) ∨ (p.1 = ah_0 ∧ p.2.1 = ch_0 ∧ (((Seg.runGo h 0 l).1).young) = h.young)) ∧ (SlR tInt S w p.2.2.1 p.2.2.2 (((Seg.runGo h 0 l).1).old) ∨ (p.2.2.1 = ah_1 ∧ p.2.2.2 = ch_1 ∧ (((Seg.runGo h 0 l).1).old) = h.old))) := by
 refine fnM (nt := 33) (F0 := [(0, .agg #[Vi h.first, Vi h.second, .slice ah_0 h.young.length ch_0, .slice ah_1 h.old.length ch_1]), (1, .slice al l.length cl)]) Tryz.func26 rfl Tryz.ntmps26 rfl rfl (fun w0 hpre => ?_)
 obtain ⟨hh_0, hh_1, hl⟩ := hpre
 have hlhh_0 := hh_0.2.1
 have hlhh_1 := hh_1.2.1
 have hlhl := hl.2.1
 refine c_seq (c_region ?_)
 refine o_box (v := .agg #[Vi h.first, Vi h.second, .slice ah_0 h.young.length ch_0, .slice ah_1 h.old.length ch_1]) rfl rfl (fun B1 => ?_)
 refine o_alloc ze58 rfl (fun B2 => ?_)
 refine o_as rfl rfl ?_
 refine o_nil (q_then (c_seq (c_region ?_)))
 refine o_as rfl rfl ?_
 refine o_nil (q_then (c_seq (c_seq (c_region ?_))))
 refine o_as rfl rfl ?_
 refine o_nil (q_then (c_block ?_))
 refine c_heap (H' := [loose tInt (ah_0 = ah_0 ∧ ch_0 = ch_0 ∧ h.young = h.young) (fun _ => False) ah_0 ch_0 h.young, box B2 [Vi 0, Vi 0, .slice none 0 0, .slice none 0 0] 58, box B1 [Vi h.first, Vi h.second, .slice ah_0 h.young.length ch_0, .slice ah_1 h.old.length ch_1] 58, base w0]) (fun w hw => HeapIs.looseOf ⟨rfl, rfl, rfl⟩ hw) ?_
 refine c_heap (H' := [loose tInt (ah_1 = ah_1 ∧ ch_1 = ch_1 ∧ h.old = h.old) (fun _ => False) ah_1 ch_1 h.old, loose tInt (ah_0 = ah_0 ∧ ch_0 = ch_0 ∧ h.young = h.young) (fun _ => False) ah_0 ch_0 h.young, box B2 [Vi 0, Vi 0, .slice none 0 0, .slice none 0 0] 58, box B1 [Vi h.first, Vi h.second, .slice ah_0 h.young.length ch_0, .slice ah_1 h.old.length ch_1] 58, base w0]) (fun w hw => HeapIs.looseOf ⟨rfl, rfl, rfl⟩ hw) ?_
 refine c_loop (St := Int × Nat × DHalls × Option Addr × Nat × (Nat → Prop) × Option Addr × Nat × (Nat → Prop))
  (fun ⟨hits, i, cc, acc_0, ccc_0, Scc_0, acc_1, ccc_1, Scc_1⟩ => [(1, .slice al l.length cl), (2, .pointer (some ⟨B1, 0, none⟩)), (4, .pointer (some ⟨B2, 0, none⟩)), (6, Vi hits), (7, Vi (i : Int))])
  (fun ⟨hits, i, cc, acc_0, ccc_0, Scc_0, acc_1, ccc_1, Scc_1⟩ => [loose tInt (acc_1 = ah_1 ∧ ccc_1 = ch_1 ∧ cc.old = h.old) Scc_1 acc_1 ccc_1 cc.old, loose tInt (acc_0 = ah_0 ∧ ccc_0 = ch_0 ∧ cc.young = h.young) Scc_0 acc_0 ccc_0 cc.young, box B2 [Vi 0, Vi 0, .slice none 0 0, .slice none 0 0] 58, box B1 [Vi cc.first, Vi cc.second, .slice acc_0 cc.young.length ccc_0, .slice acc_1 cc.old.length ccc_1] 58, base w0])
  (fun ⟨hits, i, cc, acc_0, ccc_0, Scc_0, acc_1, ccc_1, Scc_1⟩ => Seg.RInv h cc l hits i)
  (fun ⟨hits, i, cc, acc_0, ccc_0, Scc_0, acc_1, ccc_1, Scc_1⟩ => l.length - i)
  (0, 0, h, ah_0, ch_0, (fun _ => False), ah_1, ch_1, (fun _ => False)) ?_ (sr (sr (sr (sr (sr (Sub.nil _)))))) (fun _ hw => hw) ?_
 ·exact Seg.RInv.start hy1.1 hy1.2
 rintro ⟨hits, i, cc, acc_0, ccc_0, Scc_0, acc_1, ccc_1, Scc_1⟩ hI K hK5
 have hn0 := hI.n0
 have hn1 := hI.n1
 show SC _ _ Tryz.prog 33 w0 _ _ [(1, .slice al l.length cl), (2, .pointer (some ⟨B1, 0, none⟩)), (4, .pointer (some ⟨B2, 0, none⟩)), (6, Vi hits), (7, Vi (i : Int))] [loose tInt (acc_1 = ah_1 ∧ ccc_1 = ch_1 ∧ cc.old = h.old) Scc_1 acc_1 ccc_1 cc.old, loose tInt (acc_0 = ah_0 ∧ ccc_0 = ch_0 ∧ cc.young = h.young) Scc_0 acc_0 ccc_0 cc.young, box B2 [Vi 0, Vi 0, .slice none 0 0, .slice none 0 0] 58, box B1 [Vi cc.first, Vi cc.second, .slice acc_0 cc.young.length ccc_0, .slice acc_1 cc.old.length ccc_1] 58, base w0]
 refine c_seq (c_seq (c_region ?_))
 refine o_mv rfl rfl ?_
 refine o_mv rfl rfl ?_
 refine o_p (p_len_slice rfl rfl Tryz.underlying22) ?_
 refine o_p (p_lt rfl rfl) ?_
 refine o_nil (q_then ?_)
 refine c_cond rfl (fun hc6 => ?_) (fun hc6 => ?_)
 ·simp only [decide_eq_true_eq] at hc6
  refine c_skip (q_then (c_seq (c_block (c_seq ?_))))
  refine c_cut (G := Option Addr × Nat × (Nat → Prop) × Option Addr × Nat × (Nat → Prop) × Option Addr × Nat × (Nat → Prop) × Nat) (fun ⟨a7_5, c7_5, S7_5, a7_5_1, c7_5_1, S7_5_1, a7_5_2, c7_5_2, S7_5_2, B7_10⟩ => [(1, .slice al l.length cl), (2, .pointer (some ⟨B1, 0, none⟩)), (4, .pointer (some ⟨B2, 0, none⟩)), (6, Vi hits), (7, Vi (i : Int)), (8, .pointer (some ⟨B7_10, 0, none⟩)), (9, .bool ((Seg.touch cc (l[i])).2.1))]) (fun ⟨a7_5, c7_5, S7_5, a7_5_1, c7_5_1, S7_5_1, a7_5_2, c7_5_2, S7_5_2, B7_10⟩ => [box B7_10 [Vi (((Seg.touch cc (l[i])).1).first), Vi (((Seg.touch cc (l[i])).1).second), .slice a7_5 (((Seg.touch cc (l[i])).1).young).length c7_5, .slice a7_5_1 (((Seg.touch cc (l[i])).1).old).length c7_5_1] 58, own tInt S7_5 a7_5 c7_5 (((Seg.touch cc (l[i])).1).young), own tInt S7_5_1 a7_5_1 c7_5_1 (((Seg.touch cc (l[i])).1).old), own tInt S7_5_2 a7_5_2 c7_5_2 ((Seg.touch cc (l[i])).2.2), loose tInt (acc_1 = ah_1 ∧ ccc_1 = ch_1 ∧ cc.old = h.old) Scc_1 acc_1 ccc_1 cc.old, loose tInt (acc_0 = ah_0 ∧ ccc_0 = ch_0 ∧ cc.young = h.young) Scc_0 acc_0 ccc_0 cc.young, box B2 [Vi 0, Vi 0, .slice none 0 0, .slice none 0 0] 58, box B1 [Vi cc.first, Vi cc.second, .slice acc_0 cc.young.length ccc_0, .slice acc_1 cc.old.length ccc_1] 58, base w0]) (fun K hK8 => ?_) ?_
  ·refine c_held hmix [loose tInt (acc_1 = ah_1 ∧ ccc_1 = ch_1 ∧ cc.old = h.old) Scc_1 acc_1 ccc_1 cc.old, loose tInt (acc_0 = ah_0 ∧ ccc_0 = ch_0 ∧ cc.young = h.young) Scc_0 acc_0 ccc_0 cc.young, box B2 [Vi 0, Vi 0, .slice none 0 0, .slice none 0 0] 58, box B1 [Vi cc.first, Vi cc.second, .slice acc_0 cc.young.length ccc_0, .slice acc_1 cc.old.length ccc_1] 58, base w0] rfl rfl ?_
   refine h_t0 (i := 0) (ls := #[T1,F0,F0,F0,F0,F0,F0,F0,F0,F0,F0,F0,F0,F0]) rfl (p_load_agg (i := 3) (vs := [Vi cc.first, Vi cc.second, .slice acc_0 cc.young.length ccc_0, .slice acc_1 cc.old.length ccc_1]) rfl rfl sh58 rfl rfl) ?_
   refine h_t0 (i := 1) (ls := #[T1,T1,F0,F0,F0,F0,F0,F0,F0,F0,F0,F0,F0,F0]) rfl (p_move rfl) ?_
   refine h_t0 (i := 2) (ls := #[T1,T1,T1,F0,F0,F0,F0,F0,F0,F0,F0,F0,F0,F0]) rfl (p_move rfl) ?_
   refine h_t0 (i := 3) (ls := #[T1,T1,T1,T1,F0,F0,F0,F0,F0,F0,F0,F0,F0,F0]) rfl (p_indexAddr (L := l) (T := tInt) (i := (i : Int)) rfl rfl (rd_base (i := 4) rfl hl) Tryz.underlying22 sz3 (by omega) (by omega)) ?_
   refine h_t0 (i := 4) (ls := #[T1,T1,T1,T1,T1,F0,F0,F0,F0,F0,F0,F0,F0,F0]) rfl (p_loadE1 (i := i) (T := tInt) (L := l) (v := Vi (l[i])) rfl (rd_base (i := 4) rfl hl) (by first | assumption | omega) sh3 rfl) ?_
   refine h_two (i := 5) (j := 10) (ls := #[T1,T1,T1,T1,T1,T1,F0,F0,F0,F0,F0,F0,F0,F0]) (ls' := #[T1,T1,T1,T1,T1,F0,F0,F0,F0,F0,T1,F0,F0,F0]) (by kernel_rfl) rfl rfl rfl rfl ?_ ?_
   ·refine o_callX (pre := []) (R := [loose tInt (acc_1 = ah_1 ∧ ccc_1 = ch_1 ∧ cc.old = h.old) Scc_1 acc_1 ccc_1 cc.old, loose tInt (acc_0 = ah_0 ∧ ccc_0 = ch_0 ∧ cc.young = h.young) Scc_0 acc_0 ccc_0 cc.young, box B2 [Vi 0, Vi 0, .slice none 0 0, .slice none 0 0] 58, box B1 [Vi cc.first, Vi cc.second, .slice acc_0 cc.young.length ccc_0, .slice acc_1 cc.old.length ccc_1] 58, base w0]) rfl (rstouch_ok cc acc_0 ccc_0 acc_1 ccc_1 (l[i]) (by first | assumption | exact ⟨hok, hkey⟩ | exact ⟨hI.ok, hI.key _ (List.getElem_mem (by omega))⟩)) hf45 rfl (fun w hw => ⟨(rdX_loose (i := 1) (js := []) rfl (by decide) rfl (fun hφ => by obtain ⟨h1, h2, h3⟩ := hφ; rw [h1, h2, h3]; exact (rdX (i := 4) (js := []) rfl (by decide) rfl (fun _ hA => slR_base hh_0 hA)))) w hw, (rdX_loose (i := 0) (js := []) rfl (by decide) rfl (fun hφ => by obtain ⟨h1, h2, h3⟩ := hφ; rw [h1, h2, h3]; exact (rdX (i := 4) (js := []) rfl (by decide) rfl (fun _ hA => slR_base hh_1 hA)))) w hw⟩) rfl ?_
    rintro ⟨a7_5, c7_5, S7_5, a7_5_1, c7_5_1, S7_5_1, a7_5_2, c7_5_2, S7_5_2⟩
    refine o_asH (H' := [own tInt S7_5 a7_5 c7_5 (((Seg.touch cc (l[i])).1).young), own tInt S7_5_1 a7_5_1 c7_5_1 (((Seg.touch cc (l[i])).1).old), own tInt S7_5_2 a7_5_2 c7_5_2 ((Seg.touch cc (l[i])).2.2), loose tInt (acc_1 = ah_1 ∧ ccc_1 = ch_1 ∧ cc.old = h.old) Scc_1 acc_1 ccc_1 cc.old, loose tInt (acc_0 = ah_0 ∧ ccc_0 = ch_0 ∧ cc.young = h.young) Scc_0 acc_0 ccc_0 cc.young, box B2 [Vi 0, Vi 0, .slice none 0 0, .slice none 0 0] 58, box B1 [Vi cc.first, Vi cc.second, .slice acc_0 cc.young.length ccc_0, .slice acc_1 cc.old.length ccc_1] 58, base w0]) rfl ?_
    refine o_nil ?_
    refine h_next (dp (lz (lz (lz (lj (lj (lj (lj (lj (ln)))))))))) ?_
    refine h_tk (i := 6) (ls := #[T1,T1,T1,T1,T1,T1,T1,F0,F0,F0,F0,F0,F0,F0]) rfl (p_move rfl) (dp (lz (lz (lz (lj (lj (lj (lj (lj (ln)))))))))) ?_
    refine h_tk (i := 7) (ls := #[T1,T1,T1,T1,T1,T1,T1,T1,F0,F0,F0,F0,F0,F0]) rfl (p_extract rfl rfl) (dp (lz (lz (lz (lj (lj (lj (lj (lj (ln)))))))))) ?_
    refine h_tk (i := 8) (ls := #[T1,T1,T1,T1,T1,T1,T1,T1,T1,F0,F0,F0,F0,F0]) rfl (p_extract rfl rfl) (dp (lz (lz (lz (lj (lj (lj (lj (lj (ln)))))))))) ?_
    refine h_tk (i := 9) (ls := #[T1,T1,T1,T1,T1,T1,T1,T1,T1,T1,F0,F0,F0,F0]) rfl (p_extract rfl rfl) (dp (lz (lz (lz (lj (lj (lj (lj (lj (ln)))))))))) ?_
    refine h_one (i := 10) (ls := #[T1,T1,T1,T1,T1,T1,T1,T1,T1,T1,T1,F0,F0,F0]) (by kernel_rfl) rfl rfl ?_
    refine o_alloc ze58 rfl (fun B7_10 => ?_)
    refine o_nil ?_
    refine h_next (dp (lz (lz (lz (lz (lj (lj (lj (lj (lj (ln))))))))))) ?_
    refine h_one (i := 11) (ls := #[T1,T1,T1,T1,T1,T1,T1,T1,T1,T1,T1,T1,F0,F0]) (by kernel_rfl) rfl rfl ?_
    refine o_storeN (i := 0) (vs := [Vi (((Seg.touch cc (l[i])).1).first), Vi (((Seg.touch cc (l[i])).1).second), .slice a7_5 (((Seg.touch cc (l[i])).1).young).length c7_5, .slice a7_5_1 (((Seg.touch cc (l[i])).1).old).length c7_5_1]) (cs' := [Vi (((Seg.touch cc (l[i])).1).first), Vi (((Seg.touch cc (l[i])).1).second), .slice a7_5 (((Seg.touch cc (l[i])).1).young).length c7_5, .slice a7_5_1 (((Seg.touch cc (l[i])).1).old).length c7_5_1]) rfl rfl rfl sz58 rfl rfl rfl rfl ?_
    refine o_nil ?_
    refine h_next (dp (lz (lz (lz (lz (lj (lj (lj (lj (lj (ln))))))))))) ?_
    refine h_tk (i := 12) (ls := #[T1,T1,T1,T1,T1,T1,T1,T1,T1,T1,T1,T1,T1,F0]) rfl (p_assign rfl) (dp (lz (lz (lz (lz (lj (lj (lj (lj (lj (ln))))))))))) ?_
    refine h_tk (i := 13) (ls := #[T1,T1,T1,T1,T1,T1,T1,T1,T1,T1,T1,T1,T1,T1]) rfl (p_assign rfl) (dp (lz (lz (lz (lz (lj (lj (lj (lj (lj (ln))))))))))) ?_
    refine h_done (by kernel_rfl) ?_
    refine q_kont hK8 (a7_5, c7_5, S7_5, a7_5_1, c7_5_1, S7_5_1, a7_5_2, c7_5_2, S7_5_2, B7_10) (sr (sr (sr (sr (sr (sr (sr (Sub.nil _)))))))) (pk [0, 1, 2, 3, 4, 5, 6, 7, 8])
   ·refine o_alloc ze58 rfl (fun B7_10 => ?_)
    refine o_nil ?_
    refine h_next (dp (lz (lj (lj (lj (lj (lj (ln)))))))) ?_
    refine h_one (i := 5) (ls := #[T1,T1,T1,T1,T1,T1,F0,F0,F0,F0,T1,F0,F0,F0]) (by kernel_rfl) rfl rfl ?_
    refine o_callX (pre := []) (R := [box B7_10 [Vi 0, Vi 0, .slice none 0 0, .slice none 0 0] 58, loose tInt (acc_1 = ah_1 ∧ ccc_1 = ch_1 ∧ cc.old = h.old) Scc_1 acc_1 ccc_1 cc.old, loose tInt (acc_0 = ah_0 ∧ ccc_0 = ch_0 ∧ cc.young = h.young) Scc_0 acc_0 ccc_0 cc.young, box B2 [Vi 0, Vi 0, .slice none 0 0, .slice none 0 0] 58, box B1 [Vi cc.first, Vi cc.second, .slice acc_0 cc.young.length ccc_0, .slice acc_1 cc.old.length ccc_1] 58, base w0]) rfl (rstouch_ok cc acc_0 ccc_0 acc_1 ccc_1 (l[i]) (by first | assumption | exact ⟨hok, hkey⟩ | exact ⟨hI.ok, hI.key _ (List.getElem_mem (by omega))⟩)) hf45 rfl (fun w hw => ⟨(rdX_loose (i := 2) (js := []) rfl (by decide) rfl (fun hφ => by obtain ⟨h1, h2, h3⟩ := hφ; rw [h1, h2, h3]; exact (rdX (i := 5) (js := []) rfl (by decide) rfl (fun _ hA => slR_base hh_0 hA)))) w hw, (rdX_loose (i := 1) (js := []) rfl (by decide) rfl (fun hφ => by obtain ⟨h1, h2, h3⟩ := hφ; rw [h1, h2, h3]; exact (rdX (i := 5) (js := []) rfl (by decide) rfl (fun _ hA => slR_base hh_1 hA)))) w hw⟩) rfl ?_
    rintro ⟨a7_5, c7_5, S7_5, a7_5_1, c7_5_1, S7_5_1, a7_5_2, c7_5_2, S7_5_2⟩
    refine o_asH (H' := [own tInt S7_5 a7_5 c7_5 (((Seg.touch cc (l[i])).1).young), own tInt S7_5_1 a7_5_1 c7_5_1 (((Seg.touch cc (l[i])).1).old), own tInt S7_5_2 a7_5_2 c7_5_2 ((Seg.touch cc (l[i])).2.2), box B7_10 [Vi 0, Vi 0, .slice none 0 0, .slice none 0 0] 58, loose tInt (acc_1 = ah_1 ∧ ccc_1 = ch_1 ∧ cc.old = h.old) Scc_1 acc_1 ccc_1 cc.old, loose tInt (acc_0 = ah_0 ∧ ccc_0 = ch_0 ∧ cc.young = h.young) Scc_0 acc_0 ccc_0 cc.young, box B2 [Vi 0, Vi 0, .slice none 0 0, .slice none 0 0] 58, box B1 [Vi cc.first, Vi cc.second, .slice acc_0 cc.young.length ccc_0, .slice acc_1 cc.old.length ccc_1] 58, base w0]) rfl ?_
    refine o_nil ?_
    refine h_next (dp (lz (lz (lz (lz (lj (lj (lj (lj (lj (ln))))))))))) ?_
    refine h_tk (i := 6) (ls := #[T1,T1,T1,T1,T1,T1,T1,F0,F0,F0,T1,F0,F0,F0]) rfl (p_move rfl) (dp (lz (lz (lz (lz (lj (lj (lj (lj (lj (ln))))))))))) ?_
    refine h_tk (i := 7) (ls := #[T1,T1,T1,T1,T1,T1,T1,T1,F0,F0,T1,F0,F0,F0]) rfl (p_extract rfl rfl) (dp (lz (lz (lz (lz (lj (lj (lj (lj (lj (ln))))))))))) ?_
    refine h_tk (i := 8) (ls := #[T1,T1,T1,T1,T1,T1,T1,T1,T1,F0,T1,F0,F0,F0]) rfl (p_extract rfl rfl) (dp (lz (lz (lz (lz (lj (lj (lj (lj (lj (ln))))))))))) ?_
    refine h_tk (i := 9) (ls := #[T1,T1,T1,T1,T1,T1,T1,T1,T1,T1,T1,F0,F0,F0]) rfl (p_extract rfl rfl) (dp (lz (lz (lz (lz (lj (lj (lj (lj (lj (ln))))))))))) ?_
    refine h_one (i := 11) (ls := #[T1,T1,T1,T1,T1,T1,T1,T1,T1,T1,T1,T1,F0,F0]) (by kernel_rfl) rfl rfl ?_
    refine o_storeN (i := 3) (vs := [Vi (((Seg.touch cc (l[i])).1).first), Vi (((Seg.touch cc (l[i])).1).second), .slice a7_5 (((Seg.touch cc (l[i])).1).young).length c7_5, .slice a7_5_1 (((Seg.touch cc (l[i])).1).old).length c7_5_1]) (cs' := [Vi (((Seg.touch cc (l[i])).1).first), Vi (((Seg.touch cc (l[i])).1).second), .slice a7_5 (((Seg.touch cc (l[i])).1).young).length c7_5, .slice a7_5_1 (((Seg.touch cc (l[i])).1).old).length c7_5_1]) rfl rfl rfl sz58 rfl rfl rfl rfl ?_
    refine o_nil ?_
    refine h_next (dp (lz (lz (lz (lz (lj (lj (lj (lj (lj (ln))))))))))) ?_
    refine h_tk (i := 12) (ls := #[T1,T1,T1,T1,T1,T1,T1,T1,T1,T1,T1,T1,T1,F0]) rfl (p_assign rfl) (dp (lz (lz (lz (lz (lj (lj (lj (lj (lj (ln))))))))))) ?_
    refine h_tk (i := 13) (ls := #[T1,T1,T1,T1,T1,T1,T1,T1,T1,T1,T1,T1,T1,T1]) rfl (p_assign rfl) (dp (lz (lz (lz (lz (lj (lj (lj (lj (lj (ln))))))))))) ?_
    refine h_done (by kernel_rfl) ?_
    refine q_kont hK8 (a7_5, c7_5, S7_5, a7_5_1, c7_5_1, S7_5_1, a7_5_2, c7_5_2, S7_5_2, B7_10) (sr (sr (sr (sr (sr (sr (sr (Sub.nil _)))))))) (pk [3, 0, 1, 2, 4, 5, 6, 7, 8])
  rintro ⟨a7_5, c7_5, S7_5, a7_5_1, c7_5_1, S7_5_1, a7_5_2, c7_5_2, S7_5_2, B7_10⟩
  show SQ _ 33 w0 _ _ [(1, .slice al l.length cl), (2, .pointer (some ⟨B1, 0, none⟩)), (4, .pointer (some ⟨B2, 0, none⟩)), (6, Vi hits), (7, Vi (i : Int)), (8, .pointer (some ⟨B7_10, 0, none⟩)), (9, .bool ((Seg.touch cc (l[i])).2.1))] [box B7_10 [Vi (((Seg.touch cc (l[i])).1).first), Vi (((Seg.touch cc (l[i])).1).second), .slice a7_5 (((Seg.touch cc (l[i])).1).young).length c7_5, .slice a7_5_1 (((Seg.touch cc (l[i])).1).old).length c7_5_1] 58, own tInt S7_5 a7_5 c7_5 (((Seg.touch cc (l[i])).1).young), own tInt S7_5_1 a7_5_1 c7_5_1 (((Seg.touch cc (l[i])).1).old), own tInt S7_5_2 a7_5_2 c7_5_2 ((Seg.touch cc (l[i])).2.2), loose tInt (acc_1 = ah_1 ∧ ccc_1 = ch_1 ∧ cc.old = h.old) Scc_1 acc_1 ccc_1 cc.old, loose tInt (acc_0 = ah_0 ∧ ccc_0 = ch_0 ∧ cc.young = h.young) Scc_0 acc_0 ccc_0 cc.young, box B2 [Vi 0, Vi 0, .slice none 0 0, .slice none 0 0] 58, box B1 [Vi cc.first, Vi cc.second, .slice acc_0 cc.young.length ccc_0, .slice acc_1 cc.old.length ccc_1] 58, base w0]
  refine q_know (fun w hw => own_len (i := 1) (T := tInt) hw rfl) (fun hlr9 => ?_)
  refine q_know (fun w hw => own_len (i := 2) (T := tInt) hw rfl) (fun hlr10 => ?_)
  refine q_then (c_seq (c_seq (c_region ?_)))
  refine o_mv rfl rfl ?_
  refine o_nil (q_then ?_)
  refine c_cond rfl (fun hc11 => ?_) (fun hc11 => ?_)
  ·skip
   refine c_region ?_
   refine o_mv rfl rfl ?_
   refine o_p (p_addb rfl rfl (by omega)) ?_
   refine o_as rfl rfl ?_
   refine o_nil (q_then (c_region ?_))
   refine o_p (p_load_agg (i := 0) (vs := [Vi (((Seg.touch cc (l[i])).1).first), Vi (((Seg.touch cc (l[i])).1).second), .slice a7_5 (((Seg.touch cc (l[i])).1).young).length c7_5, .slice a7_5_1 (((Seg.touch cc (l[i])).1).old).length c7_5_1]) rfl rfl sh58 rfl rfl) ?_
   refine o_storeN (i := 7) (vs := [Vi (((Seg.touch cc (l[i])).1).first), Vi (((Seg.touch cc (l[i])).1).second), .slice a7_5 (((Seg.touch cc (l[i])).1).young).length c7_5, .slice a7_5_1 (((Seg.touch cc (l[i])).1).old).length c7_5_1]) (cs' := [Vi (((Seg.touch cc (l[i])).1).first), Vi (((Seg.touch cc (l[i])).1).second), .slice a7_5 (((Seg.touch cc (l[i])).1).young).length c7_5, .slice a7_5_1 (((Seg.touch cc (l[i])).1).old).length c7_5_1]) rfl rfl rfl sz58 rfl rfl rfl rfl ?_
   refine o_nil ?_
   refine q_block_normal (q_then ?_)
   refine c_region ?_
   refine o_mv rfl rfl ?_
   refine o_p (p_addb rfl rfl (by omega)) ?_
   refine o_as rfl rfl ?_
   refine o_nil ?_
   refine q_heap (H' := [box B7_10 [Vi (((Seg.touch cc (l[i])).1).first), Vi (((Seg.touch cc (l[i])).1).second), .slice a7_5 (((Seg.touch cc (l[i])).1).young).length c7_5, .slice a7_5_1 (((Seg.touch cc (l[i])).1).old).length c7_5_1] 58, loose tInt (a7_5 = ah_0 ∧ c7_5 = ch_0 ∧ (((Seg.touch cc (l[i])).1).young) = h.young) S7_5 a7_5 c7_5 (((Seg.touch cc (l[i])).1).young), own tInt S7_5_1 a7_5_1 c7_5_1 (((Seg.touch cc (l[i])).1).old), own tInt S7_5_2 a7_5_2 c7_5_2 ((Seg.touch cc (l[i])).2.2), loose tInt (acc_1 = ah_1 ∧ ccc_1 = ch_1 ∧ cc.old = h.old) Scc_1 acc_1 ccc_1 cc.old, loose tInt (acc_0 = ah_0 ∧ ccc_0 = ch_0 ∧ cc.young = h.young) Scc_0 acc_0 ccc_0 cc.young, box B2 [Vi 0, Vi 0, .slice none 0 0, .slice none 0 0] 58, box B1 [Vi (((Seg.touch cc (l[i])).1).first), Vi (((Seg.touch cc (l[i])).1).second), .slice a7_5 (((Seg.touch cc (l[i])).1).young).length c7_5, .slice a7_5_1 (((Seg.touch cc (l[i])).1).old).length c7_5_1] 58, base w0]) (fun w hw => HeapIs.toLoose (i := 1) (T := tInt) rfl hw) ?_
   refine q_heap (H' := [box B7_10 [Vi (((Seg.touch cc (l[i])).1).first), Vi (((Seg.touch cc (l[i])).1).second), .slice a7_5 (((Seg.touch cc (l[i])).1).young).length c7_5, .slice a7_5_1 (((Seg.touch cc (l[i])).1).old).length c7_5_1] 58, loose tInt (a7_5 = ah_0 ∧ c7_5 = ch_0 ∧ (((Seg.touch cc (l[i])).1).young) = h.young) S7_5 a7_5 c7_5 (((Seg.touch cc (l[i])).1).young), loose tInt (a7_5_1 = ah_1 ∧ c7_5_1 = ch_1 ∧ (((Seg.touch cc (l[i])).1).old) = h.old) S7_5_1 a7_5_1 c7_5_1 (((Seg.touch cc (l[i])).1).old), own tInt S7_5_2 a7_5_2 c7_5_2 ((Seg.touch cc (l[i])).2.2), loose tInt (acc_1 = ah_1 ∧ ccc_1 = ch_1 ∧ cc.old = h.old) Scc_1 acc_1 ccc_1 cc.old, loose tInt (acc_0 = ah_0 ∧ ccc_0 = ch_0 ∧ cc.young = h.young) Scc_0 acc_0 ccc_0 cc.young, box B2 [Vi 0, Vi 0, .slice none 0 0, .slice none 0 0] 58, box B1 [Vi (((Seg.touch cc (l[i])).1).first), Vi (((Seg.touch cc (l[i])).1).second), .slice a7_5 (((Seg.touch cc (l[i])).1).young).length c7_5, .slice a7_5_1 (((Seg.touch cc (l[i])).1).old).length c7_5_1] 58, base w0]) (fun w hw => HeapIs.toLoose (i := 2) (T := tInt) rfl hw) ?_
   refine q_round hK5 ((hits + 1), i + 1, ((Seg.touch cc (l[i])).1), a7_5, c7_5, S7_5, a7_5_1, c7_5_1, S7_5_1) ?_ ?_ ?_ ?_
   ·clear hK5
    first | exact hI.hit (by omega) (by assumption) | exact hI.miss (by omega) (by assumption)
   ·(try dsimp only); omega
   ·exact sr (sr (sr (sr (sr (Sub.nil _)))))
   ·exact pk [2, 1, 6, 7, 8]
  ·skip
   refine c_skip (q_then (c_region ?_))
   refine o_p (p_load_agg (i := 0) (vs := [Vi (((Seg.touch cc (l[i])).1).first), Vi (((Seg.touch cc (l[i])).1).second), .slice a7_5 (((Seg.touch cc (l[i])).1).young).length c7_5, .slice a7_5_1 (((Seg.touch cc (l[i])).1).old).length c7_5_1]) rfl rfl sh58 rfl rfl) ?_
   refine o_storeN (i := 7) (vs := [Vi (((Seg.touch cc (l[i])).1).first), Vi (((Seg.touch cc (l[i])).1).second), .slice a7_5 (((Seg.touch cc (l[i])).1).young).length c7_5, .slice a7_5_1 (((Seg.touch cc (l[i])).1).old).length c7_5_1]) (cs' := [Vi (((Seg.touch cc (l[i])).1).first), Vi (((Seg.touch cc (l[i])).1).second), .slice a7_5 (((Seg.touch cc (l[i])).1).young).length c7_5, .slice a7_5_1 (((Seg.touch cc (l[i])).1).old).length c7_5_1]) rfl rfl rfl sz58 rfl rfl rfl rfl ?_
   refine o_nil ?_
   refine q_block_normal (q_then ?_)
   refine c_region ?_
   refine o_mv rfl rfl ?_
   refine o_p (p_addb rfl rfl (by omega)) ?_
   refine o_as rfl rfl ?_
   refine o_nil ?_
   refine q_heap (H' := [box B7_10 [Vi (((Seg.touch cc (l[i])).1).first), Vi (((Seg.touch cc (l[i])).1).second), .slice a7_5 (((Seg.touch cc (l[i])).1).young).length c7_5, .slice a7_5_1 (((Seg.touch cc (l[i])).1).old).length c7_5_1] 58, loose tInt (a7_5 = ah_0 ∧ c7_5 = ch_0 ∧ (((Seg.touch cc (l[i])).1).young) = h.young) S7_5 a7_5 c7_5 (((Seg.touch cc (l[i])).1).young), own tInt S7_5_1 a7_5_1 c7_5_1 (((Seg.touch cc (l[i])).1).old), own tInt S7_5_2 a7_5_2 c7_5_2 ((Seg.touch cc (l[i])).2.2), loose tInt (acc_1 = ah_1 ∧ ccc_1 = ch_1 ∧ cc.old = h.old) Scc_1 acc_1 ccc_1 cc.old, loose tInt (acc_0 = ah_0 ∧ ccc_0 = ch_0 ∧ cc.young = h.young) Scc_0 acc_0 ccc_0 cc.young, box B2 [Vi 0, Vi 0, .slice none 0 0, .slice none 0 0] 58, box B1 [Vi (((Seg.touch cc (l[i])).1).first), Vi (((Seg.touch cc (l[i])).1).second), .slice a7_5 (((Seg.touch cc (l[i])).1).young).length c7_5, .slice a7_5_1 (((Seg.touch cc (l[i])).1).old).length c7_5_1] 58, base w0]) (fun w hw => HeapIs.toLoose (i := 1) (T := tInt) rfl hw) ?_
   refine q_heap (H' := [box B7_10 [Vi (((Seg.touch cc (l[i])).1).first), Vi (((Seg.touch cc (l[i])).1).second), .slice a7_5 (((Seg.touch cc (l[i])).1).young).length c7_5, .slice a7_5_1 (((Seg.touch cc (l[i])).1).old).length c7_5_1] 58, loose tInt (a7_5 = ah_0 ∧ c7_5 = ch_0 ∧ (((Seg.touch cc (l[i])).1).young) = h.young) S7_5 a7_5 c7_5 (((Seg.touch cc (l[i])).1).young), loose tInt (a7_5_1 = ah_1 ∧ c7_5_1 = ch_1 ∧ (((Seg.touch cc (l[i])).1).old) = h.old) S7_5_1 a7_5_1 c7_5_1 (((Seg.touch cc (l[i])).1).old), own tInt S7_5_2 a7_5_2 c7_5_2 ((Seg.touch cc (l[i])).2.2), loose tInt (acc_1 = ah_1 ∧ ccc_1 = ch_1 ∧ cc.old = h.old) Scc_1 acc_1 ccc_1 cc.old, loose tInt (acc_0 = ah_0 ∧ ccc_0 = ch_0 ∧ cc.young = h.young) Scc_0 acc_0 ccc_0 cc.young, box B2 [Vi 0, Vi 0, .slice none 0 0, .slice none 0 0] 58, box B1 [Vi (((Seg.touch cc (l[i])).1).first), Vi (((Seg.touch cc (l[i])).1).second), .slice a7_5 (((Seg.touch cc (l[i])).1).young).length c7_5, .slice a7_5_1 (((Seg.touch cc (l[i])).1).old).length c7_5_1] 58, base w0]) (fun w hw => HeapIs.toLoose (i := 2) (T := tInt) rfl hw) ?_
   refine q_round hK5 (hits, i + 1, ((Seg.touch cc (l[i])).1), a7_5, c7_5, S7_5, a7_5_1, c7_5_1, S7_5_1) ?_ ?_ ?_ ?_
   ·clear hK5
    first | exact hI.hit (by omega) (by assumption) | exact hI.miss (by omega) (by assumption)
   ·(try dsimp only); omega
   ·exact sr (sr (sr (sr (sr (Sub.nil _)))))
   ·exact pk [2, 1, 6, 7, 8]
 ·simp only [decide_eq_false_iff_not, Int.not_lt] at hc6
  refine c_exit ?_
  refine q_then_exit (q_then_exit (q_block_exit (q_then ?_)))
  refine c_seq (c_region ?_)
  refine o_p (p_load_agg (i := 3) (vs := [Vi cc.first, Vi cc.second, .slice acc_0 cc.young.length ccc_0, .slice acc_1 cc.old.length ccc_1]) rfl rfl sh58 rfl rfl) ?_
  refine o_mv rfl rfl ?_
  refine o_storeN (i := 2) (vs := [Vi cc.first, Vi cc.second, .slice acc_0 cc.young.length ccc_0, .slice acc_1 cc.old.length ccc_1]) (cs' := [Vi cc.first, Vi cc.second, .slice acc_0 cc.young.length ccc_0, .slice acc_1 cc.old.length ccc_1]) rfl rfl rfl sz58 rfl rfl rfl rfl ?_
  refine o_as rfl rfl ?_
  refine o_nil (q_then (c_ret ?_))
  have hd := hI.done (by omega)
  have hr0 : (cc.first : Int) = ((Seg.runGo h 0 l).1).first := by
   simp only [hd]
  have hr1 : (cc.second : Int) = ((Seg.runGo h 0 l).1).second := by
   simp only [hd]
  have hr2 : (cc.young : List Int) = ((Seg.runGo h 0 l).1).young := by
   simp only [hd]
  have hr3 : (cc.old : List Int) = ((Seg.runGo h 0 l).1).old := by
   simp only [hd]
  have hr4 : (hits : Int) = ((Seg.runGo h 0 l).2) := by
   simp only [hd]
  refine q_endM (p := (acc_0, ccc_0, acc_1, ccc_1)) (fun b => Scc_0 b ∨ Scc_1 b) (rt2 rfl (r_cell (i := 2) rfl rfl sh58 rfl) (r_tmp rfl)) (i := 4) rfl ?_ ?_ ?_
  ·exact (by have hcc := congr (congr (congr (congr (congrArg (fun (y0 : Int) (y1 : Int) (y2 : List Int) (y3 : List Int) (y4 : Int) => (.tuple #[.agg #[.int .i64 y0, .int .i64 y1, .slice acc_0 y2.length ccc_0, .slice acc_1 y3.length ccc_1], .int .i64 y4] : Value)) hr0) hr1) hr2) hr3) hr4; exact hcc)
  ·intro w hw b hb; rcases hb with hb | hb
   ·exact hw.above (i := 4) (j := 1) (by decide) rfl rfl b hb
   ·exact hw.above (i := 4) (j := 0) (by decide) rfl rfl b hb
  ·intro w hw; exact ⟨Eq.mp (congrArg (fun y => SlR tInt _ w acc_0 ccc_0 y ∨ (acc_0 = ah_0 ∧ ccc_0 = ch_0 ∧ y = h.young)) hr2) (Or.imp (fun h => SlR.mono (fun b hb => by simp [hb]) h) id (hw.at (i := 1) rfl).here), Eq.mp (congrArg (fun y => SlR tInt _ w acc_1 ccc_1 y ∨ (acc_1 = ah_1 ∧ ccc_1 = ch_1 ∧ y = h.old)) hr3) (Or.imp (fun h => SlR.mono (fun b hb => by simp [hb]) h) id (hw.at (i := 0) rfl).here)⟩

set_option maxHeartbeats 8000000 in
set_option maxRecDepth 100000 in
theorem comesAgain_ok (l : List Int) (al : Option Addr) (cl : Nat) (from_ : Int) (key : Int) (hy1 : 0 ≤ from_ ∧ from_ ≤ (l.length : Int)) : Fn0 Tryz.prog 46 [.slice al l.length cl, Vi from_, Vi key] (fun w => Rd tInt w al cl l) (Vi ((Opt.ca l from_.toNat key : Nat) : Int)) := by
 refine fn0 (nt := 24) (F0 := [(0, .slice al l.length cl), (1, Vi from_), (2, Vi key)]) Tryz.func46 rfl Tryz.ntmps46 rfl rfl (fun w0 hpre => ?_)
 have hl := hpre
 have hlhl := hl.2.1
 refine c_seq (c_region ?_)
 refine o_as rfl rfl ?_
 refine o_nil (q_then (c_seq (c_seq (c_region ?_))))
 refine o_mv rfl rfl ?_
 refine o_as rfl rfl ?_
 refine o_nil (q_then (c_block ?_))
 refine c_loop (St := Int)
  (fun k => [(0, .slice al l.length cl), (2, Vi key), (7, Vi k)])
  (fun k => [base w0])
  (fun k => Opt.CI l from_.toNat key k)
  (fun k => ((l.length : Int) - k).toNat)
  from_ ?_ (sr (sr (sr (Sub.nil _)))) (fun _ hw => hw) ?_
 ·exact (by have h := Opt.CI.start (l := l) (f := from_.toNat) key (by omega); rwa [show ((from_.toNat : Nat) : Int) = from_ by omega] at h)
 rintro k hI K hK1
 have hlo := hI.lo
 have hhi := hI.hi
 show SC _ _ Tryz.prog 24 w0 _ _ [(0, .slice al l.length cl), (2, Vi key), (7, Vi k)] [base w0]
 refine c_seq (c_seq (c_region ?_))
 refine o_mv rfl rfl ?_
 refine o_mv rfl rfl ?_
 refine o_p (p_len_slice rfl rfl Tryz.underlying22) ?_
 refine o_p (p_lt rfl rfl) ?_
 refine o_nil (q_then ?_)
 refine c_cond rfl (fun hc2 => ?_) (fun hc2 => ?_)
 ·simp only [decide_eq_true_eq] at hc2
  refine c_skip (q_then (c_seq (c_block (c_seq (c_region ?_)))))
  refine o_mv rfl rfl ?_
  refine o_mv rfl rfl ?_
  refine o_p (p_indexAddr (L := l) (T := tInt) (i := k) rfl rfl (rd_base (i := 0) rfl hl) Tryz.underlying22 sz3 (by omega) (by omega)) ?_
  refine o_p (p_loadE1 (i := k.toNat) (T := tInt) (L := l) (v := Vi (l[k.toNat])) rfl (rd_base (i := 0) rfl hl) (by first | assumption | omega) sh3 rfl) ?_
  refine o_mv rfl rfl ?_
  refine o_p (p_eq rfl rfl) ?_
  refine o_nil (q_then ?_)
  refine c_cond rfl (fun hc3 => ?_) (fun hc3 => ?_)
  ·simp only [beq_iff_eq] at hc3
   refine c_seq (c_region ?_)
   refine o_mv rfl rfl ?_
   refine o_as rfl rfl ?_
   refine o_nil (q_then (c_ret ?_))
   refine q_block_ret (q_then_ret (q_then_ret (q_block_ret (q_then_ret ?_))))
   have hr0 : (k : Int) = ((Opt.ca l from_.toNat key : Nat) : Int) := by
    first | exact hI.found (by omega) (by assumption) | exact hI.none (by omega) (by omega)
   refine q_end0 (v := Vi k) (rt1 rfl (r_tmp rfl)) (i := 0) rfl ?_
   exact (by have hcc := congrArg (fun (y0 : Int) => (.int .i64 y0 : Value)) hr0; exact hcc)
  ·simp only [beq_eq_false_iff_ne, ne_eq] at hc3
   refine c_skip ?_
   refine q_block_normal (q_then ?_)
   refine c_region ?_
   refine o_mv rfl rfl ?_
   refine o_p (p_addb rfl rfl (by omega)) ?_
   refine o_as rfl rfl ?_
   refine o_nil ?_
   refine q_round hK1 (k + 1) ?_ ?_ ?_ ?_
   ·clear hK1
    exact hI.next (by omega) (by assumption)
   ·(try dsimp only); omega
   ·exact sr (sr (sr (Sub.nil _)))
   ·exact pk [0]
 ·simp only [decide_eq_false_iff_not, Int.not_lt] at hc2
  refine c_exit ?_
  refine q_then_exit (q_then_exit (q_block_exit (q_then ?_)))
  refine c_seq (c_region ?_)
  refine o_mv rfl rfl ?_
  refine o_p (p_len_slice rfl rfl Tryz.underlying22) ?_
  refine o_as rfl rfl ?_
  refine o_nil (q_then (c_ret ?_))
  have hr0 : ((l.length : Int) : Int) = ((Opt.ca l from_.toNat key : Nat) : Int) := by
   first | exact hI.found (by omega) (by assumption) | exact hI.none (by omega) (by omega)
  refine q_end0 (v := Vi (l.length : Int)) (rt1 rfl (r_tmp rfl)) (i := 0) rfl ?_
  exact (by have hcc := congrArg (fun (y0 : Int) => (.int .i64 y0 : Value)) hr0; exact hcc)

set_option maxHeartbeats 8000000 in
set_option maxRecDepth 100000 in
theorem bestGone_ok (l : List Int) (al : Option Addr) (cl : Nat) (room : Int) (hy1 : 1 ≤ room ∧ l.length ≤ 1000) : FnM Tryz.prog 27 [.slice al l.length cl, Vi room] (fun w => Rd tInt w al cl l) (Option Addr × Nat) (fun p => .tuple #[.slice p.1 ((Opt.go l room l.length).2.1).length p.2, Vi ((Opt.go l room l.length).2.2)]) (fun p S w => SlO tInt S w p.1 p.2 ((Opt.go l room l.length).2.1)) := by
 refine fnM (nt := 101) (F0 := [(0, .slice al l.length cl), (1, Vi room)]) Tryz.func27 rfl Tryz.ntmps27 rfl rfl (fun w0 hpre => ?_)
 have hl := hpre
 have hlhl := hl.2.1
 refine c_seq (c_region ?_)
 refine o_as rfl rfl ?_
 refine o_as rfl rfl ?_
 refine o_nil (q_then (c_seq (c_region ?_)))
 refine o_as rfl rfl ?_
 refine o_as rfl rfl ?_
 refine o_nil (q_then (c_seq (c_region ?_)))
 refine o_as rfl rfl ?_
 refine o_nil (q_then (c_seq (c_seq (c_region ?_))))
 refine o_as rfl rfl ?_
 refine o_nil (q_then (c_block ?_))
 refine c_ownNil tInt ?_
 refine c_ownNil tInt ?_
 refine c_loop (St := List Int × Option Addr × Nat × (Nat → Prop) × List Int × Option Addr × Nat × (Nat → Prop) × Int × Nat)
  (fun ⟨in_, ain_, cin_, Sin_, gone, agone, cgone, Sgone, misses, i⟩ => [(0, .slice al l.length cl), (1, Vi room), (6, .slice ain_ in_.length cin_), (7, .slice agone gone.length cgone), (8, Vi misses), (9, Vi (i : Int))])
  (fun ⟨in_, ain_, cin_, Sin_, gone, agone, cgone, Sgone, misses, i⟩ => [own tInt Sgone agone cgone gone, own tInt Sin_ ain_ cin_ in_, base w0])
  (fun ⟨in_, ain_, cin_, Sin_, gone, agone, cgone, Sgone, misses, i⟩ => Opt.RI l room in_ gone misses i)
  (fun ⟨in_, ain_, cin_, Sin_, gone, agone, cgone, Sgone, misses, i⟩ => l.length - i)
  ([], none, 0, (fun _ => False), [], none, 0, (fun _ => False), 0, 0) ?_ (sr (sr (sr (sr (sr (sr (Sub.nil _))))))) (fun _ hw => hw) ?_
 ·exact Opt.RI.start l room
 rintro ⟨in_, ain_, cin_, Sin_, gone, agone, cgone, Sgone, misses, i⟩ hI K hK3
 have hRI := hI
 obtain ⟨hcl, hcr, hgl, hm0, hm1⟩ := hI.bd hy1.1
 have hil := hI.le
 show SC _ _ Tryz.prog 101 w0 _ _ [(0, .slice al l.length cl), (1, Vi room), (6, .slice ain_ in_.length cin_), (7, .slice agone gone.length cgone), (8, Vi misses), (9, Vi (i : Int))] [own tInt Sgone agone cgone gone, own tInt Sin_ ain_ cin_ in_, base w0]
 refine c_seq (c_seq (c_region ?_))
 refine o_mv rfl rfl ?_
 refine o_mv rfl rfl ?_
 refine o_p (p_len_slice rfl rfl Tryz.underlying22) ?_
 refine o_p (p_lt rfl rfl) ?_
 refine o_nil (q_then ?_)
 refine c_cond rfl (fun hc4 => ?_) (fun hc4 => ?_)
 ·simp only [decide_eq_true_eq] at hc4
  refine c_skip (q_then (c_seq (c_block (c_seq (c_seq (c_region ?_))))))
  refine o_mv rfl rfl ?_
  refine o_mv rfl rfl ?_
  refine o_mv rfl rfl ?_
  refine o_p (p_indexAddr (L := l) (T := tInt) (i := (i : Int)) rfl rfl (rd_base (i := 2) rfl hl) Tryz.underlying22 sz3 (by omega) (by omega)) ?_
  refine o_p (p_loadE1 (i := i) (T := tInt) (L := l) (v := Vi (l[i])) rfl (rd_base (i := 2) rfl hl) (by first | assumption | omega) sh3 rfl) ?_
  refine o_call0 (v := .bool (Ref.hasInt in_ (l[i]))) rfl (hasInt_ok in_ ain_ cin_ (l[i])) hf10 (fun w hw => (rd_own (i := 1) rfl) w hw) rfl ?_
  refine o_nil (q_then ?_)
  refine c_cond rfl (fun hc5 => ?_) (fun hc5 => ?_)
  ·skip
   refine c_seq (c_region ?_)
   refine o_mv rfl rfl ?_
   refine o_buildSlice (m := 1) (T := tInt) (L := [(-1)]) (vs := [Vi (-1)]) rfl rfl rfl rfl Tryz.underlying22 sz3 (by decide) ze3 rfl (by decide) rfl (fun S6 a7 => ?_)
   refine o_append (i := 1) (L := gone) (M := [(-1)]) (T := tInt) rfl rfl rfl (rd_own (i := 0) rfl) Tryz.underlying22 Tryz.underlying22 (by intro k h; cases h) el3 (by intro z; simp [tInt, one1]) (by decide) (by first | omega | (simp only [List.length_cons, List.length_nil]; omega) | (simp only [List.length_append, List.length_cons, List.length_nil, List.length_take, List.length_drop]; omega)) rfl (fun a9 c10 S11 => ?_)
   refine o_as rfl rfl ?_
   refine o_nil (q_then ?_)
   refine c_exit ?_
   refine q_then_exit (q_block_exit (q_then ?_))
   refine c_region ?_
   refine o_mv rfl rfl ?_
   refine o_p (p_addb rfl rfl (by omega)) ?_
   refine o_as rfl rfl ?_
   refine o_nil ?_
   refine q_round hK3 (in_, ain_, cin_, Sin_, (gone ++ [(-1)]), a9, c10, S11, misses, i + 1) ?_ ?_ ?_ ?_
   ·clear hK3
    first | exact hRI.hit (by omega) (by assumption) | exact hRI.add (by omega) hno (by assumption) | exact hRI.evict (by omega) hno hfull hbest (by omega)
   ·(try dsimp only); omega
   ·exact sr (sr (sr (sr (sr (sr (Sub.nil _))))))
   ·exact pk [1, 2, 3]
  ·skip
   have hno := hc5
   refine c_skip (q_then (c_seq (c_region ?_)))
   refine o_mv rfl rfl ?_
   refine o_p (p_addb rfl rfl (by omega)) ?_
   refine o_as rfl rfl ?_
   refine o_nil (q_then (c_seq (c_seq (c_region ?_))))
   refine o_mv rfl rfl ?_
   refine o_p (p_len_slice rfl rfl Tryz.underlying22) ?_
   refine o_mv rfl rfl ?_
   refine o_p (p_lt rfl rfl) ?_
   refine o_nil (q_then ?_)
   refine c_cond rfl (fun hc12 => ?_) (fun hc12 => ?_)
   ·simp only [decide_eq_true_eq] at hc12
    refine c_seq (c_region ?_)
    refine o_mv rfl rfl ?_
    refine o_mv rfl rfl ?_
    refine o_mv rfl rfl ?_
    refine o_p (p_indexAddr (L := l) (T := tInt) (i := (i : Int)) rfl rfl (rd_base (i := 2) rfl hl) Tryz.underlying22 sz3 (by omega) (by omega)) ?_
    refine o_p (p_loadE1 (i := i) (T := tInt) (L := l) (v := Vi (l[i])) rfl (rd_base (i := 2) rfl hl) (by first | assumption | omega) sh3 rfl) ?_
    refine o_buildSlice (m := 1) (T := tInt) (L := [l[i]]) (vs := [Vi (l[i])]) rfl rfl rfl rfl Tryz.underlying22 sz3 (by decide) ze3 rfl (by decide) rfl (fun S13 a14 => ?_)
    refine o_append (i := 2) (L := in_) (M := [l[i]]) (T := tInt) rfl rfl rfl (rd_own (i := 0) rfl) Tryz.underlying22 Tryz.underlying22 (by intro k h; cases h) el3 (by intro z; simp [tInt, one1]) (by decide) (by first | omega | (simp only [List.length_cons, List.length_nil]; omega) | (simp only [List.length_append, List.length_cons, List.length_nil, List.length_take, List.length_drop]; omega)) rfl (fun a16 c17 S18 => ?_)
    refine o_as rfl rfl ?_
    refine o_nil (q_then (c_seq (c_region ?_)))
    refine o_mv rfl rfl ?_
    refine o_buildSlice (m := 1) (T := tInt) (L := [(-1)]) (vs := [Vi (-1)]) rfl rfl rfl rfl Tryz.underlying22 sz3 (by decide) ze3 rfl (by decide) rfl (fun S19 a20 => ?_)
    refine o_append (i := 2) (L := gone) (M := [(-1)]) (T := tInt) rfl rfl rfl (rd_own (i := 0) rfl) Tryz.underlying22 Tryz.underlying22 (by intro k h; cases h) el3 (by intro z; simp [tInt, one1]) (by decide) (by first | omega | (simp only [List.length_cons, List.length_nil]; omega) | (simp only [List.length_append, List.length_cons, List.length_nil, List.length_take, List.length_drop]; omega)) rfl (fun a22 c23 S24 => ?_)
    refine o_as rfl rfl ?_
    refine o_nil (q_then ?_)
    refine c_exit ?_
    refine q_then_exit (q_block_exit (q_then ?_))
    refine c_region ?_
    refine o_mv rfl rfl ?_
    refine o_p (p_addb rfl rfl (by omega)) ?_
    refine o_as rfl rfl ?_
    refine o_nil ?_
    refine q_round hK3 ((in_ ++ [l[i]]), a16, c17, S18, (gone ++ [(-1)]), a22, c23, S24, (misses + 1), i + 1) ?_ ?_ ?_ ?_
    ·clear hK3
     first | exact hRI.hit (by omega) (by assumption) | exact hRI.add (by omega) hno (by assumption) | exact hRI.evict (by omega) hno hfull hbest (by omega)
    ·(try dsimp only); omega
    ·exact sr (sr (sr (sr (sr (sr (Sub.nil _))))))
    ·exact pk [2, 3, 4]
   ·simp only [decide_eq_false_iff_not, Int.not_lt] at hc12
    have hfull := hc12
    refine c_skip (q_then (c_seq (c_region ?_)))
    refine o_as rfl rfl ?_
    refine o_nil (q_then (c_seq (c_seq (c_region ?_))))
    refine o_as rfl rfl ?_
    refine o_nil (q_then (c_block ?_))
    refine c_loop (St := Int × Int)
     (fun ⟨best, k⟩ => [(0, .slice al l.length cl), (1, Vi room), (6, .slice ain_ in_.length cin_), (7, .slice agone gone.length cgone), (8, Vi (misses + 1)), (9, Vi (i : Int)), (10, Vi best), (11, Vi k)])
     (fun ⟨best, k⟩ => [own tInt Sgone agone cgone gone, own tInt Sin_ ain_ cin_ in_, base w0])
     (fun ⟨best, k⟩ => Opt.BI l i in_ best k)
     (fun ⟨best, k⟩ => ((in_.length : Int) - k).toNat)
     (0, 1) ?_ (sr (sr (sr (sr (sr (sr (sr (sr (Sub.nil _))))))))) (fun _ hw => hw) ?_
    ·exact Opt.BI.start (by omega)
    rintro ⟨best, k⟩ hI K hK25
    have hlo := hI.lo
    have hhi := hI.hi
    have hbb := hI.bd (by omega)
    show SC _ _ Tryz.prog 101 w0 _ _ [(0, .slice al l.length cl), (1, Vi room), (6, .slice ain_ in_.length cin_), (7, .slice agone gone.length cgone), (8, Vi (misses + 1)), (9, Vi (i : Int)), (10, Vi best), (11, Vi k)] [own tInt Sgone agone cgone gone, own tInt Sin_ ain_ cin_ in_, base w0]
    refine c_seq (c_seq (c_region ?_))
    refine o_mv rfl rfl ?_
    refine o_mv rfl rfl ?_
    refine o_p (p_len_slice rfl rfl Tryz.underlying22) ?_
    refine o_p (p_lt rfl rfl) ?_
    refine o_nil (q_then ?_)
    refine c_cond rfl (fun hc26 => ?_) (fun hc26 => ?_)
    ·simp only [decide_eq_true_eq] at hc26
     refine c_skip (q_then (c_seq (c_block (c_seq ?_))))
     refine c_draw hmix (by kernel_rfl) ?_
     refine w_mv rfl rfl ?_
     refine w_mv rfl rfl ?_
     refine w_mv rfl rfl ?_
     refine w_mv rfl rfl ?_
     refine w_p (p_indexAddr (L := in_) (T := tInt) (i := k) rfl rfl (rd_own (i := 1) rfl) Tryz.underlying22 sz3 (by omega) (by omega)) ?_
     refine w_p (p_loadE1 (i := k.toNat) (T := tInt) (L := in_) (v := Vi (in_[k.toNat])) rfl (rd_own (i := 1) rfl) (by first | assumption | omega) sh3 rfl) ?_
     refine w_call0 (v := Vi ((Opt.ca l (i : Int).toNat (in_[k.toNat]) : Nat) : Int)) rfl (comesAgain_ok l al cl (i : Int) (in_[k.toNat]) (by omega)) hf46 (fun w hw => (rd_base (i := 2) rfl hl) w hw) rfl ?_
     refine w_mv rfl rfl ?_
     refine w_mv rfl rfl ?_
     refine w_mv rfl rfl ?_
     refine w_mv rfl rfl ?_
     refine w_p (p_indexAddr (L := in_) (T := tInt) (i := best) rfl rfl (rd_own (i := 1) rfl) Tryz.underlying22 sz3 (by omega) (by omega)) ?_
     refine w_p (p_loadE1 (i := best.toNat) (T := tInt) (L := in_) (v := Vi (in_[best.toNat])) rfl (rd_own (i := 1) rfl) (by first | assumption | omega) sh3 rfl) ?_
     refine w_call0 (v := Vi ((Opt.ca l (i : Int).toNat (in_[best.toNat]) : Nat) : Int)) rfl (comesAgain_ok l al cl (i : Int) (in_[best.toNat]) (by omega)) hf46 (fun w hw => (rd_base (i := 2) rfl hl) w hw) rfl ?_
     refine w_p (p_assign rfl) ?_
     refine w_p (p_assign rfl) ?_
     refine w_nil (q_then (c_seq ?_))
     refine c_draw hmix (by kernel_rfl) ?_
     refine w_mv rfl rfl ?_
     refine w_mv rfl rfl ?_
     refine w_p (p_gt rfl rfl) ?_
     refine w_mv rfl rfl ?_
     refine w_or (p := 83) 15 ((((Opt.ca l (i : Int).toNat (in_[k.toNat]) : Nat) : Int) == ((Opt.ca l (i : Int).toNat (in_[best.toNat]) : Nat) : Int)) && decide (in_[k.toNat] < in_[best.toNat])) ?_ ?_ ?_
     ·intro hb27 hk
      simp only [decide_eq_false_iff_not, Int.not_lt] at hb27
      refine w_unguard 68 rfl rfl ?_
      refine w_mv rfl rfl ?_
      refine w_unguard 68 rfl rfl ?_
      refine w_mv rfl rfl ?_
      refine w_unguard 68 rfl rfl ?_
      refine w_p (p_eq rfl rfl) ?_
      refine w_unguard 68 rfl rfl ?_
      refine w_mv rfl rfl ?_
      refine w_and (p := 82) 10 (decide (in_[k.toNat] < in_[best.toNat])) ?_ ?_ ?_
      ·intro hb28 hk
       simp only [beq_iff_eq] at hb28
       refine w_unguard 72 rfl rfl ?_
       refine w_mv rfl rfl ?_
       refine w_unguard 72 rfl rfl ?_
       refine w_mv rfl rfl ?_
       refine w_unguard 72 rfl rfl ?_
       refine w_p (p_indexAddr (L := in_) (T := tInt) (i := k) rfl rfl (rd_own (i := 1) rfl) Tryz.underlying22 sz3 (by omega) (by omega)) ?_
       refine w_unguard 72 rfl rfl ?_
       refine w_p (p_loadE1 (i := k.toNat) (T := tInt) (L := in_) (v := Vi (in_[k.toNat])) rfl (rd_own (i := 1) rfl) (by first | assumption | omega) sh3 rfl) ?_
       refine w_unguard 72 rfl rfl ?_
       refine w_mv rfl rfl ?_
       refine w_unguard 72 rfl rfl ?_
       refine w_mv rfl rfl ?_
       refine w_unguard 72 rfl rfl ?_
       refine w_p (p_indexAddr (L := in_) (T := tInt) (i := best) rfl rfl (rd_own (i := 1) rfl) Tryz.underlying22 sz3 (by omega) (by omega)) ?_
       refine w_unguard 72 rfl rfl ?_
       refine w_p (p_loadE1 (i := best.toNat) (T := tInt) (L := in_) (v := Vi (in_[best.toNat])) rfl (rd_own (i := 1) rfl) (by first | assumption | omega) sh3 rfl) ?_
       refine w_unguard 72 rfl rfl ?_
       refine w_p (p_lt rfl rfl) ?_
       refine w_unguard 68 rfl rfl ?_
       refine w_pt rfl rfl rfl ?_
       exact w_sub (sr (Sub.skip rfl (Sub.skip rfl (Sub.skip rfl (Sub.skip rfl (Sub.skip rfl (Sub.skip rfl (Sub.skip rfl (Sub.skip rfl (Sub.skip rfl (Sub.skip rfl (Sub.skip rfl (Sub.refl _))))))))))))) hk
      ·intro hb28 hk
       refine w_guard_no rfl 72 rfl rfl rfl rfl rfl ?_
       refine w_guard_no rfl 72 rfl rfl rfl rfl rfl ?_
       refine w_guard_no rfl 72 rfl rfl rfl rfl rfl ?_
       refine w_guard_no rfl 72 rfl rfl rfl rfl rfl ?_
       refine w_guard_no rfl 72 rfl rfl rfl rfl rfl ?_
       refine w_guard_no rfl 72 rfl rfl rfl rfl rfl ?_
       refine w_guard_no rfl 72 rfl rfl rfl rfl rfl ?_
       refine w_guard_no rfl 72 rfl rfl rfl rfl rfl ?_
       refine w_guard_no rfl 72 rfl rfl rfl rfl rfl ?_
       refine w_unguard 68 rfl rfl ?_
       refine w_pf rfl rfl rfl ?_
       exact w_sub (sr (Sub.skip rfl (Sub.skip rfl (Sub.skip rfl (Sub.skip rfl (Sub.skip rfl (Sub.skip rfl (Sub.skip rfl (Sub.skip rfl (Sub.skip rfl (Sub.skip rfl (Sub.skip rfl (Sub.refl _))))))))))))) hk
      refine w_pf rfl rfl rfl ?_
      exact w_sub (sr (Sub.skip rfl (Sub.skip rfl (Sub.skip rfl (Sub.skip rfl (Sub.skip rfl (Sub.skip rfl (Sub.refl _)))))))) hk
     ·intro hb27 hk
      refine w_guard_no rfl 68 rfl rfl rfl rfl rfl ?_
      refine w_guard_no rfl 68 rfl rfl rfl rfl rfl ?_
      refine w_guard_no rfl 68 rfl rfl rfl rfl rfl ?_
      refine w_guard_no rfl 68 rfl rfl rfl rfl rfl ?_
      refine w_guard_no rfl 72 rfl rfl rfl rfl rfl ?_
      refine w_guard_no rfl 72 rfl rfl rfl rfl rfl ?_
      refine w_guard_no rfl 72 rfl rfl rfl rfl rfl ?_
      refine w_guard_no rfl 72 rfl rfl rfl rfl rfl ?_
      refine w_guard_no rfl 72 rfl rfl rfl rfl rfl ?_
      refine w_guard_no rfl 72 rfl rfl rfl rfl rfl ?_
      refine w_guard_no rfl 72 rfl rfl rfl rfl rfl ?_
      refine w_guard_no rfl 72 rfl rfl rfl rfl rfl ?_
      refine w_guard_no rfl 72 rfl rfl rfl rfl rfl ?_
      refine w_guard_no rfl 68 rfl rfl rfl rfl rfl ?_
      refine w_pt rfl rfl rfl ?_
      exact w_sub (sr (Sub.skip rfl (Sub.skip rfl (Sub.skip rfl (Sub.skip rfl (Sub.skip rfl (Sub.skip rfl (Sub.skip rfl (Sub.skip rfl (Sub.skip rfl (Sub.skip rfl (Sub.skip rfl (Sub.skip rfl (Sub.skip rfl (Sub.skip rfl (Sub.skip rfl (Sub.skip rfl (Sub.refl _)))))))))))))))))) hk
     refine w_nil (q_then ?_)
     refine c_cond rfl (fun hc29 => ?_) (fun hc29 => ?_)
     ·simp only [Bool.or_eq_true, decide_eq_true_eq, Bool.and_eq_true, beq_iff_eq] at hc29
      have hpk := hc29
      refine c_region ?_
      refine o_mv rfl rfl ?_
      refine o_as rfl rfl ?_
      refine o_nil ?_
      refine q_block_normal (q_then ?_)
      refine c_region ?_
      refine o_mv rfl rfl ?_
      refine o_p (p_addb rfl rfl (by omega)) ?_
      refine o_as rfl rfl ?_
      refine o_nil ?_
      refine q_round hK25 (k, (k + 1)) ?_ ?_ ?_ ?_
      ·clear hK25
       first | exact hI.take_ (by omega) (by omega) hpk | exact hI.skip (by omega) (by omega) hpk
      ·(try dsimp only); omega
      ·exact sr (sr (sr (sr (sr (sr (sr (sr (Sub.nil _))))))))
      ·exact pk [0, 1, 2]
     ·simp only [Bool.or_eq_false_iff, decide_eq_false_iff_not, Int.not_lt, Bool.and_eq_false_iff, beq_eq_false_iff_ne, ne_eq] at hc29
      have hpk := hc29
      refine c_skip ?_
      refine q_block_normal (q_then ?_)
      refine c_region ?_
      refine o_mv rfl rfl ?_
      refine o_p (p_addb rfl rfl (by omega)) ?_
      refine o_as rfl rfl ?_
      refine o_nil ?_
      refine q_round hK25 (best, (k + 1)) ?_ ?_ ?_ ?_
      ·clear hK25
       first | exact hI.take_ (by omega) (by omega) hpk | exact hI.skip (by omega) (by omega) hpk
      ·(try dsimp only); omega
      ·exact sr (sr (sr (sr (sr (sr (sr (sr (Sub.nil _))))))))
      ·exact pk [0, 1, 2]
    ·simp only [decide_eq_false_iff_not, Int.not_lt] at hc26
     have hbest := hI.done (by omega)
     refine c_exit ?_
     refine q_then_exit (q_then_exit (q_block_exit (q_then ?_)))
     refine c_seq (c_region ?_)
     refine o_mv rfl rfl ?_
     refine o_mv rfl rfl ?_
     refine o_mv rfl rfl ?_
     refine o_p (p_indexAddr (L := in_) (T := tInt) (i := best) rfl rfl (rd_own (i := 1) rfl) Tryz.underlying22 sz3 (by omega) (by omega)) ?_
     refine o_p (p_loadE1 (i := best.toNat) (T := tInt) (L := in_) (v := Vi (in_[best.toNat])) rfl (rd_own (i := 1) rfl) (by first | assumption | omega) sh3 rfl) ?_
     refine o_buildSlice (m := 1) (T := tInt) (L := [in_[best.toNat]]) (vs := [Vi (in_[best.toNat])]) rfl rfl rfl rfl Tryz.underlying22 sz3 (by decide) ze3 rfl (by decide) rfl (fun S30 a31 => ?_)
     refine o_append (i := 1) (L := gone) (M := [in_[best.toNat]]) (T := tInt) rfl rfl rfl (rd_own (i := 0) rfl) Tryz.underlying22 Tryz.underlying22 (by intro k h; cases h) el3 (by intro z; simp [tInt, one1]) (by decide) (by first | omega | (simp only [List.length_cons, List.length_nil]; omega) | (simp only [List.length_append, List.length_cons, List.length_nil, List.length_take, List.length_drop]; omega)) rfl (fun a33 c34 S35 => ?_)
     refine o_as rfl rfl ?_
     refine o_nil (q_then (c_region ?_))
     refine o_mv rfl rfl ?_
     refine o_mv rfl rfl ?_
     refine o_mv rfl rfl ?_
     refine o_mv rfl rfl ?_
     refine o_p (p_indexAddr (L := l) (T := tInt) (i := (i : Int)) rfl rfl (rd_base (i := 3) rfl hl) Tryz.underlying22 sz3 (by omega) (by omega)) ?_
     refine o_p (p_loadE1 (i := i) (T := tInt) (L := l) (v := Vi (l[i])) rfl (rd_base (i := 3) rfl hl) (by first | assumption | omega) sh3 rfl) ?_
     refine o_p (p_indexAddr (L := in_) (T := tInt) (i := best) rfl rfl (rd_own (i := 2) rfl) Tryz.underlying22 sz3 (by omega) (by omega)) ?_
     refine o_storeW (i := 2) (T := tInt) (idx := best.toNat) (v := Vi (l[i])) (vs := [Vi (l[i])]) (z := l[i]) (F' := [(0, .slice al l.length cl), (1, Vi room), (6, .slice ain_ (in_.set best.toNat (l[i])).length cin_), (7, .slice a33 (gone ++ [in_[best.toNat]]).length c34), (8, Vi (misses + 1)), (9, Vi (i : Int))]) rfl rfl rfl rfl (by first | assumption | omega | (simp only [List.length_set]; omega)) sz3 rfl rfl rfl rfl (sr (sr (Sub.cons (by first | (simp only [List.length_set]; rfl) | (show some _ = some _; congr 2; rw [List.length_set]) | (rw [List.length_set]; rfl)) (sr (sr (sr (Sub.nil _))))))) ?_
     refine o_nil ?_
     refine q_block_normal (q_then ?_)
     refine c_region ?_
     refine o_mv rfl rfl ?_
     refine o_p (p_addb rfl rfl (by omega)) ?_
     refine o_as rfl rfl ?_
     refine o_nil ?_
     refine q_round hK3 ((in_.set best.toNat (l[i])), ain_, cin_, Sin_, (gone ++ [in_[best.toNat]]), a33, c34, S35, (misses + 1), i + 1) ?_ ?_ ?_ ?_
     ·clear hK3
      first | exact hRI.hit (by omega) (by assumption) | exact hRI.add (by omega) hno (by assumption) | exact hRI.evict (by omega) hno hfull hbest (by omega)
     ·(try dsimp only); omega
     ·exact sr (sr (sr (sr (sr (sr (Sub.nil _))))))
     ·exact pk [1, 2, 3]
 ·simp only [decide_eq_false_iff_not, Int.not_lt] at hc4
  refine c_exit ?_
  refine q_then_exit (q_then_exit (q_block_exit (q_then ?_)))
  refine c_seq (c_region ?_)
  refine o_mv rfl rfl ?_
  refine o_mv rfl rfl ?_
  refine o_as rfl rfl ?_
  refine o_as rfl rfl ?_
  refine o_nil (q_then (c_ret ?_))
  obtain ⟨hd1, hd2⟩ := hI.done (by omega)
  have hr0 : (gone : List Int) = ((Opt.go l room l.length).2.1) := by
   first | exact hd1 | exact hd2
  have hr1 : (misses : Int) = ((Opt.go l room l.length).2.2) := by
   first | exact hd1 | exact hd2
  refine q_endM (p := (agone, cgone)) Sgone (rt2 rfl (r_tmp rfl) (r_tmp rfl)) (i := 2) rfl ?_ ?_ ?_
  ·exact (by have hcc := congr (congrArg (fun (y0 : List Int) (y1 : Int) => (.tuple #[.slice agone y0.length cgone, .int .i64 y1] : Value)) hr0) hr1; exact hcc)
  ·exact fun w hw => hw.above (i := 2) (j := 0) (by decide) rfl rfl
  ·intro w hw; exact Eq.mp (congrArg (fun y => SlO tInt _ w agone cgone y) hr0) ((hw.at (i := 0) rfl).here)
end Go.Proofs.YtfncgfcehkalnaaGreat

/- The walks, printed by a program from the translation and a specification. -/
namespace Go.Proofs.YtfncgfcehkalnaaGreat
open Go.Sx Go.RowKit
set_option maxHeartbeats 8000000 in
set_option maxRecDepth 100000 in
theorem contestHits_ok (l : List Int) (al : Option Addr) (cl : Nat) (room : Int) (pol : Int) (hy1 : Lru.trace l = 0 ∧ 2 ≤ room ∧ room ≤ 40) : Fn0 Tryz.prog 9 [.slice al l.length cl, Vi room, Vi pol] (fun w => Rd tInt w al cl l) (Vi (Cmp.by_ l room pol)) := by
 refine fn0 (nt := 63) (F0 := [(0, .slice al l.length cl), (1, Vi room), (2, Vi pol)]) Tryz.func9 rfl Tryz.ntmps9 rfl rfl (fun w0 hpre => ?_)
 have hl := hpre
 have hlhl := hl.2.1
 have htr := hy1.1
 have hkeys := (Lru.trace_ok.1 hy1.1).2
 have h200 := (Lru.trace_ok.1 hy1.1).1
 have hA : Lru.Ok (⟨room, []⟩ : DCache) ∧ ∀ x ∈ l, Lru.okKey x = true := ⟨Cmp.lru_okc ⟨by omega, by omega⟩, hkeys⟩
 have hB : Clock.Ok (⟨room, 0, []⟩ : DClock) := Cmp.ck_okc ⟨by omega, by omega⟩
 have hC : Lfu.Ok (⟨room, []⟩ : DUses) ∧ ∀ x ∈ l, Lru.okKey x = true := ⟨Cmp.lfu_okc ⟨by omega, by omega⟩, hkeys⟩
 have hD : Seg.Ok (⟨room.tdiv 2, room - room.tdiv 2, [], []⟩ : DHalls) ∧ ∀ x ∈ l, Lru.okKey x = true := ⟨Seg.ok_of (Cmp.seg_check ⟨by omega, by omega⟩), hkeys⟩
 have ht2 : room.tdiv 2 = room / 2 := Int.tdiv_eq_ediv_of_nonneg (by omega)
 have hev := Opt.ev_bd2 hy1.1 (room := room) (by omega)
 have hgo : (Opt.go l room l.length).2.2 = (Opt.ev l room).2 := Cmp.go_ev htr ⟨by omega, by omega⟩
 refine c_seq (c_region ?_)
 refine o_as rfl rfl ?_
 refine o_nil (q_then (c_seq (c_region ?_)))
 refine o_as rfl rfl ?_
 refine o_nil (q_then (c_seq (c_seq (c_region ?_))))
 refine o_mv rfl rfl ?_
 refine o_nil (q_then (c_block (c_seq (c_region ?_))))
 refine o_p (p_eq rfl rfl) ?_
 refine o_as rfl rfl ?_
 refine o_nil (q_then ?_)
 refine c_cond rfl (fun hc1 => ?_) (fun hc1 => ?_)
 ·simp only [beq_iff_eq] at hc1
  refine c_region ?_
  refine o_mv rfl rfl ?_
  refine o_p (p_build (cells := [Vi room, .slice none 0 0]) fp44 ze44 rfl rfl) ?_
  refine o_mv rfl rfl ?_
  refine o_callM rfl (lruRun_ok (⟨room, []⟩ : DCache) none 0 l al cl (by first | assumption | exact ⟨hok, hkeys⟩)) hf23 (fun w hw => ⟨rd_nil w hw, (rd_base (i := 0) rfl hl) w hw⟩) rfl (fun _ _ _ _ ha hA => hA.imp (fun h => SlR.agree ha h) id) ?_
  rintro ⟨a4, c5⟩ S2
  refine o_mv rfl rfl ?_
  refine o_ex rfl rfl rfl ?_
  refine o_ex rfl rfl rfl ?_
  refine o_as rfl rfl ?_
  refine o_nil ?_
  refine q_block_normal (q_then ?_)
  refine c_seq (c_region ?_)
  refine o_mv rfl rfl ?_
  refine o_as rfl rfl ?_
  refine o_nil (q_then (c_ret ?_))
  have hr0 : (((Lru.runGo (⟨room, []⟩ : DCache) 0 l).2) : Int) = (Cmp.by_ l room pol) := by
   first | exact Cmp.ref1 htr ⟨by omega, by omega⟩ (by assumption) | exact Cmp.ref2 htr ⟨by omega, by omega⟩ (by assumption) | exact Cmp.ref3 htr ⟨by omega, by omega⟩ (by assumption) | exact Cmp.ref4 htr ⟨by omega, by omega⟩ (by assumption) | exact Cmp.ref5 htr ⟨by omega, by omega⟩ (by assumption) (by assumption) (by assumption) (by assumption)
  refine q_end0 (v := Vi ((Lru.runGo (⟨room, []⟩ : DCache) 0 l).2)) (rt1 rfl (r_tmp rfl)) (i := 1) rfl ?_
  exact (by have hcc := congrArg (fun (y0 : Int) => (.int .i64 y0 : Value)) hr0; exact hcc)
 ·simp only [beq_eq_false_iff_ne, ne_eq] at hc1
  refine c_seq (c_region ?_)
  refine o_p (p_eq rfl rfl) ?_
  refine o_as rfl rfl ?_
  refine o_nil (q_then ?_)
  refine c_cond rfl (fun hc6 => ?_) (fun hc6 => ?_)
  ·simp only [beq_iff_eq] at hc6
   refine c_region ?_
   refine o_mv rfl rfl ?_
   refine o_p (p_build (cells := [Vi room, Vi 0, .slice none 0 0]) fp49 ze49 rfl rfl) ?_
   refine o_mv rfl rfl ?_
   refine o_callM rfl (clockRun_ok (⟨room, 0, []⟩ : DClock) none 0 l al cl (by first | assumption | exact hI.ok | omega)) hf24 (fun w hw => ⟨rd_nil w hw, (rd_base (i := 0) rfl hl) w hw⟩) rfl (fun _ _ _ _ ha hA => hA.imp (fun h => SlR.agree ha h) id) ?_
   rintro ⟨a9, c10⟩ S7
   refine o_mv rfl rfl ?_
   refine o_ex rfl rfl rfl ?_
   refine o_ex rfl rfl rfl ?_
   refine o_as rfl rfl ?_
   refine o_nil ?_
   refine q_block_normal (q_then ?_)
   refine c_seq (c_region ?_)
   refine o_mv rfl rfl ?_
   refine o_as rfl rfl ?_
   refine o_nil (q_then (c_ret ?_))
   have hr0 : (((Clock.runGo (⟨room, 0, []⟩ : DClock) 0 l).2) : Int) = (Cmp.by_ l room pol) := by
    first | exact Cmp.ref1 htr ⟨by omega, by omega⟩ (by assumption) | exact Cmp.ref2 htr ⟨by omega, by omega⟩ (by assumption) | exact Cmp.ref3 htr ⟨by omega, by omega⟩ (by assumption) | exact Cmp.ref4 htr ⟨by omega, by omega⟩ (by assumption) | exact Cmp.ref5 htr ⟨by omega, by omega⟩ (by assumption) (by assumption) (by assumption) (by assumption)
   refine q_end0 (v := Vi ((Clock.runGo (⟨room, 0, []⟩ : DClock) 0 l).2)) (rt1 rfl (r_tmp rfl)) (i := 1) rfl ?_
   exact (by have hcc := congrArg (fun (y0 : Int) => (.int .i64 y0 : Value)) hr0; exact hcc)
  ·simp only [beq_eq_false_iff_ne, ne_eq] at hc6
   refine c_seq (c_region ?_)
   refine o_p (p_eq rfl rfl) ?_
   refine o_as rfl rfl ?_
   refine o_nil (q_then ?_)
   refine c_cond rfl (fun hc11 => ?_) (fun hc11 => ?_)
   ·simp only [beq_iff_eq] at hc11
    refine c_region ?_
    refine o_mv rfl rfl ?_
    refine o_p (p_build (cells := [Vi room, .slice none 0 0]) fp54 ze54 rfl rfl) ?_
    refine o_mv rfl rfl ?_
    refine o_callM rfl (rfrun_ok (⟨room, []⟩ : DUses) none 0 l al cl (by first | assumption | exact ⟨hok, hkeys⟩)) hf25 (fun w hw => ⟨rd_nil w hw, (rd_base (i := 0) rfl hl) w hw⟩) rfl (fun _ _ _ _ ha hA => hA.imp (fun h => SlR.agree ha h) id) ?_
    rintro ⟨a14, c15⟩ S12
    refine o_mv rfl rfl ?_
    refine o_ex rfl rfl rfl ?_
    refine o_ex rfl rfl rfl ?_
    refine o_as rfl rfl ?_
    refine o_nil ?_
    refine q_block_normal (q_then ?_)
    refine c_seq (c_region ?_)
    refine o_mv rfl rfl ?_
    refine o_as rfl rfl ?_
    refine o_nil (q_then (c_ret ?_))
    have hr0 : (((Lfu.runGo (⟨room, []⟩ : DUses) 0 l).2) : Int) = (Cmp.by_ l room pol) := by
     first | exact Cmp.ref1 htr ⟨by omega, by omega⟩ (by assumption) | exact Cmp.ref2 htr ⟨by omega, by omega⟩ (by assumption) | exact Cmp.ref3 htr ⟨by omega, by omega⟩ (by assumption) | exact Cmp.ref4 htr ⟨by omega, by omega⟩ (by assumption) | exact Cmp.ref5 htr ⟨by omega, by omega⟩ (by assumption) (by assumption) (by assumption) (by assumption)
    refine q_end0 (v := Vi ((Lfu.runGo (⟨room, []⟩ : DUses) 0 l).2)) (rt1 rfl (r_tmp rfl)) (i := 1) rfl ?_
    exact (by have hcc := congrArg (fun (y0 : Int) => (.int .i64 y0 : Value)) hr0; exact hcc)
   ·simp only [beq_eq_false_iff_ne, ne_eq] at hc11
    refine c_seq (c_region ?_)
    refine o_p (p_eq rfl rfl) ?_
    refine o_as rfl rfl ?_
    refine o_nil (q_then ?_)
    refine c_cond rfl (fun hc16 => ?_) (fun hc16 => ?_)
    ·simp only [beq_iff_eq] at hc16
     refine c_region ?_
     refine o_mv rfl rfl ?_
     refine o_p (p_quob (p := room) (q := 2) rfl rfl (by decide) (by omega)) ?_
     refine o_mv rfl rfl ?_
     refine o_mv rfl rfl ?_
     refine o_p (p_quob (p := room) (q := 2) rfl rfl (by decide) (by omega)) ?_
     refine o_p (p_subb rfl rfl (by omega)) ?_
     refine o_p (p_build (cells := [Vi (room.tdiv 2), Vi (room - (room.tdiv 2)), .slice none 0 0, .slice none 0 0]) fp58 ze58 rfl rfl) ?_
     refine o_mv rfl rfl ?_
     refine o_callM rfl (rsrun_ok (⟨(room.tdiv 2), (room - (room.tdiv 2)), [], []⟩ : DHalls) none 0 none 0 l al cl (by first | assumption | exact ⟨hok, hkeys⟩)) hf26 (fun w hw => ⟨rd_nil w hw, rd_nil w hw, (rd_base (i := 0) rfl hl) w hw⟩) rfl (fun _ _ _ _ ha hA => ⟨hA.1.imp (fun h => SlR.agree ha h) id, hA.2.imp (fun h => SlR.agree ha h) id⟩) ?_
     rintro ⟨a19, c20, a21, c22⟩ S17
     refine o_mv rfl rfl ?_
     refine o_ex rfl rfl rfl ?_
     refine o_ex rfl rfl rfl ?_
     refine o_as rfl rfl ?_
     refine o_nil ?_
     refine q_block_normal (q_then ?_)
     refine c_seq (c_region ?_)
     refine o_mv rfl rfl ?_
     refine o_as rfl rfl ?_
     refine o_nil (q_then (c_ret ?_))
     have hr0 : (((Seg.runGo (⟨(room.tdiv 2), (room - (room.tdiv 2)), [], []⟩ : DHalls) 0 l).2) : Int) = (Cmp.by_ l room pol) := by
      first | exact Cmp.ref1 htr ⟨by omega, by omega⟩ (by assumption) | exact Cmp.ref2 htr ⟨by omega, by omega⟩ (by assumption) | exact Cmp.ref3 htr ⟨by omega, by omega⟩ (by assumption) | exact Cmp.ref4 htr ⟨by omega, by omega⟩ (by assumption) | exact Cmp.ref5 htr ⟨by omega, by omega⟩ (by assumption) (by assumption) (by assumption) (by assumption)
     refine q_end0 (v := Vi ((Seg.runGo (⟨(room.tdiv 2), (room - (room.tdiv 2)), [], []⟩ : DHalls) 0 l).2)) (rt1 rfl (r_tmp rfl)) (i := 1) rfl ?_
     exact (by have hcc := congrArg (fun (y0 : Int) => (.int .i64 y0 : Value)) hr0; exact hcc)
    ·simp only [beq_eq_false_iff_ne, ne_eq] at hc16
     refine c_seq (c_region ?_)
     refine o_mv rfl rfl ?_
     refine o_mv rfl rfl ?_
     refine o_callM rfl (bestGone_ok l al cl room (by omega)) hf27 (fun w hw => (rd_base (i := 0) rfl hl) w hw) rfl (fun _ _ _ _ ha hA => SlO.agree ha hA) ?_
     rintro ⟨a27, c28⟩ S25
     refine o_know (fun w hw => own_len (i := 0) (T := tInt) hw rfl) (fun hlr29 => ?_)
     refine o_mv rfl rfl ?_
     refine o_ex rfl rfl rfl ?_
     refine o_ex rfl rfl rfl ?_
     refine o_as rfl rfl ?_
     refine o_as rfl rfl ?_
     refine o_nil (q_then (c_region ?_))
     refine o_mv rfl rfl ?_
     refine o_p (p_len_slice rfl rfl Tryz.underlying22) ?_
     refine o_mv rfl rfl ?_
     refine o_p (p_subb rfl rfl (by omega)) ?_
     refine o_as rfl rfl ?_
     refine o_nil ?_
     refine q_block_normal (q_then ?_)
     refine c_seq (c_region ?_)
     refine o_mv rfl rfl ?_
     refine o_as rfl rfl ?_
     refine o_nil (q_then (c_ret ?_))
     have hr0 : (((l.length : Int) - ((Opt.go l room l.length).2.2)) : Int) = (Cmp.by_ l room pol) := by
      first | exact Cmp.ref1 htr ⟨by omega, by omega⟩ (by assumption) | exact Cmp.ref2 htr ⟨by omega, by omega⟩ (by assumption) | exact Cmp.ref3 htr ⟨by omega, by omega⟩ (by assumption) | exact Cmp.ref4 htr ⟨by omega, by omega⟩ (by assumption) | exact Cmp.ref5 htr ⟨by omega, by omega⟩ (by assumption) (by assumption) (by assumption) (by assumption)
     refine q_end0 (v := Vi ((l.length : Int) - ((Opt.go l room l.length).2.2))) (rt1 rfl (r_tmp rfl)) (i := 1) rfl ?_
     exact (by have hcc := congrArg (fun (y0 : Int) => (.int .i64 y0 : Value)) hr0; exact hcc)
end Go.Proofs.YtfncgfcehkalnaaGreat
