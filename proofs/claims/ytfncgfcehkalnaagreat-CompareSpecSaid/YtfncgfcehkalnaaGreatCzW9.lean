/- The walks, printed by a program from the translation and a specification. -/
import Derived.Test.YtfncgfcehkalnaaGreatCzF
import Derived.Test.YtfncgfcehkalnaaGreatCpLaw3M2
namespace Go.Proofs.YtfncgfcehkalnaaGreat
open Go.Sx Go.RowKit
set_option maxHeartbeats 8000000 in
set_option maxRecDepth 100000 in
theorem between_ok (n : Int) (a : Int) (b : Int) : Fn0 Tryz.prog 22 [Vi n, Vi a, Vi b] (fun _ => True) (.bool (Ref.between n a b)) := by
 refine fn0 (nt := 15) (F0 := [(0, Vi n), (1, Vi a), (2, Vi b)]) Tryz.func22 rfl Tryz.ntmps22 rfl rfl (fun w0 hpre => ?_)
 refine c_seq (c_region ?_)
 refine o_as rfl rfl ?_
 refine o_nil (q_then (c_seq (c_region ?_)))
 refine o_mv rfl rfl ?_
 refine o_mv rfl rfl ?_
 refine o_p (p_ge rfl rfl) ?_
 refine o_mv rfl rfl ?_
 refine o_and (p := 14) 4 (decide (n ≤ b)) ?_ ?_ ?_
 ·intro hb1 hk
  simp only [decide_eq_true_eq] at hb1
  refine o_unguard 10 rfl rfl ?_
  refine o_mv rfl rfl ?_
  refine o_unguard 10 rfl rfl ?_
  refine o_mv rfl rfl ?_
  refine o_unguard 10 rfl rfl ?_
  refine o_p (p_le rfl rfl) ?_
  refine o_pt rfl rfl rfl ?_
  exact o_sub (sr (Sub.skip rfl (Sub.skip rfl (Sub.skip rfl (Sub.skip rfl (Sub.skip rfl (Sub.refl _))))))) hk
 ·intro hb1 hk
  refine o_guard_no rfl 10 rfl rfl rfl rfl rfl ?_
  refine o_guard_no rfl 10 rfl rfl rfl rfl rfl ?_
  refine o_guard_no rfl 10 rfl rfl rfl rfl rfl ?_
  refine o_pf rfl rfl rfl ?_
  exact o_sub (sr (Sub.skip rfl (Sub.skip rfl (Sub.skip rfl (Sub.skip rfl (Sub.skip rfl (Sub.refl _))))))) hk
 refine o_as rfl rfl ?_
 refine o_nil (q_then (c_ret ?_))
 have hr0 : ((decide (a ≤ n) && decide (n ≤ b)) : Bool) = (Ref.between n a b) := by
  rfl
 refine q_end0 (v := .bool (decide (a ≤ n) && decide (n ≤ b))) (rt1 rfl (r_tmp rfl)) (i := 0) rfl ?_
 exact (by have hcc := congrArg (fun (y0 : Bool) => (.bool y0 : Value)) hr0; exact hcc)

set_option maxHeartbeats 8000000 in
set_option maxRecDepth 100000 in
theorem hasInt_ok (l : List Int) (al : Option Addr) (cl : Nat) (n : Int) : Fn0 Tryz.prog 10 [.slice al l.length cl, Vi n] (fun w => Rd tInt w al cl l) (.bool (Ref.hasInt l n)) := by
 refine fn0 (nt := 18) (F0 := [(0, .slice al l.length cl), (1, Vi n)]) Tryz.func10 rfl Tryz.ntmps10 rfl rfl (fun w0 hpre => ?_)
 have hl := hpre
 have hlhl := hl.2.1
 refine c_seq (c_region ?_)
 refine o_as rfl rfl ?_
 refine o_nil (q_then (c_seq (c_seq (c_region ?_))))
 refine o_as rfl rfl ?_
 refine o_nil (q_then (c_block ?_))
 refine c_loop (St := Nat)
  (fun i => [(0, .slice al l.length cl), (1, Vi n), (5, Vi (i : Int))])
  (fun i => [base w0])
  (fun i => i ≤ l.length ∧ ∀ j (h1 : j < l.length), j < i → l[j] ≠ n)
  (fun i => l.length - i)
  0 ?_ (sr (sr (sr (Sub.nil _)))) (fun _ hw => hw) ?_
 ·exact ⟨Nat.zero_le _, fun j _ h => absurd h (by omega)⟩
 rintro i hI K hK1
 obtain ⟨hi, hinv⟩ := hI
 show SC _ _ Tryz.prog 18 w0 _ _ [(0, .slice al l.length cl), (1, Vi n), (5, Vi (i : Int))] [base w0]
 refine c_seq (c_seq (c_region ?_))
 refine o_mv rfl rfl ?_
 refine o_mv rfl rfl ?_
 refine o_p (p_len_slice rfl rfl Tryz.underlying22) ?_
 refine o_p (p_lt rfl rfl) ?_
 refine o_nil (q_then ?_)
 refine c_cond rfl (fun hc2 => ?_) (fun hc2 => ?_)
 ·simp only [decide_eq_true_eq] at hc2
  refine c_skip (q_then (c_seq (c_block (c_seq (c_region ?_)))))
  refine o_mv rfl rfl ?_
  refine o_mv rfl rfl ?_
  refine o_p (p_indexAddr (L := l) (T := tInt) (i := (i : Int)) rfl rfl (rd_base (i := 0) rfl hl) Tryz.underlying22 sz3 (by omega) (by omega)) ?_
  refine o_p (p_loadE1 (i := i) (T := tInt) (L := l) (v := Vi (l[i])) rfl (rd_base (i := 0) rfl hl) (by first | assumption | omega) sh3 rfl) ?_
  refine o_mv rfl rfl ?_
  refine o_p (p_eq rfl rfl) ?_
  refine o_nil (q_then ?_)
  refine c_cond rfl (fun hc3 => ?_) (fun hc3 => ?_)
  ·simp only [beq_iff_eq] at hc3
   refine c_seq (c_region ?_)
   refine o_as rfl rfl ?_
   refine o_nil (q_then (c_ret ?_))
   refine q_block_ret (q_then_ret (q_then_ret (q_block_ret (q_then_ret ?_))))
   have hr0 : (true : Bool) = (Ref.hasInt l n) := by
    simp only [Ref.hasInt]
    grind [List.mem_iff_getElem]
   refine q_end0 (v := .bool true) (rt1 rfl (r_tmp rfl)) (i := 0) rfl ?_
   exact (by have hcc := congrArg (fun (y0 : Bool) => (.bool y0 : Value)) hr0; exact hcc)
  ·simp only [beq_eq_false_iff_ne, ne_eq] at hc3
   refine c_skip ?_
   refine q_block_normal (q_then ?_)
   refine c_region ?_
   refine o_mv rfl rfl ?_
   refine o_p (p_addb rfl rfl (by omega)) ?_
   refine o_as rfl rfl ?_
   refine o_nil ?_
   refine q_round hK1 (i + 1) ?_ ?_ ?_ ?_
   ·clear hK1
    refine ⟨by omega, ?_⟩
    grind
   ·(try dsimp only); omega
   ·exact sr (sr (sr (Sub.nil _)))
   ·exact pk [0]
 ·simp only [decide_eq_false_iff_not, Int.not_lt] at hc2
  refine c_exit ?_
  refine q_then_exit (q_then_exit (q_block_exit (q_then ?_)))
  refine c_seq (c_region ?_)
  refine o_as rfl rfl ?_
  refine o_nil (q_then (c_ret ?_))
  have hr0 : (false : Bool) = (Ref.hasInt l n) := by
   simp only [Ref.hasInt]
   grind [List.mem_iff_getElem]
  refine q_end0 (v := .bool false) (rt1 rfl (r_tmp rfl)) (i := 0) rfl ?_
  exact (by have hcc := congrArg (fun (y0 : Bool) => (.bool y0 : Value)) hr0; exact hcc)

set_option maxHeartbeats 8000000 in
set_option maxRecDepth 100000 in
theorem sameInts_ok (a : List Int) (aa : Option Addr) (ca : Nat) (b : List Int) (ab : Option Addr) (cb : Nat) : Fn0 Tryz.prog 12 [.slice aa a.length ca, .slice ab b.length cb] (fun w => Rd tInt w aa ca a ∧ Rd tInt w ab cb b) (.bool (Ref.sameInts a b)) := by
 refine fn0 (nt := 26) (F0 := [(0, .slice aa a.length ca), (1, .slice ab b.length cb)]) Tryz.func12 rfl Tryz.ntmps12 rfl rfl (fun w0 hpre => ?_)
 obtain ⟨ha, hb⟩ := hpre
 have hlha := ha.2.1
 have hlhb := hb.2.1
 refine c_seq (c_region ?_)
 refine o_as rfl rfl ?_
 refine o_nil (q_then (c_seq (c_seq (c_region ?_))))
 refine o_mv rfl rfl ?_
 refine o_p (p_len_slice rfl rfl Tryz.underlying22) ?_
 refine o_mv rfl rfl ?_
 refine o_p (p_len_slice rfl rfl Tryz.underlying22) ?_
 refine o_p (p_ne rfl rfl) ?_
 refine o_nil (q_then ?_)
 refine c_cond rfl (fun hc1 => ?_) (fun hc1 => ?_)
 ·simp only [bne_iff_ne, ne_eq] at hc1
  refine c_seq (c_region ?_)
  refine o_as rfl rfl ?_
  refine o_nil (q_then (c_ret ?_))
  refine q_then_ret ?_
  have hr0 : (false : Bool) = (Ref.sameInts a b) := by
   simp only [Ref.sameInts]
   grind [List.ext_getElem]
  refine q_end0 (v := .bool false) (rt1 rfl (r_tmp rfl)) (i := 0) rfl ?_
  exact (by have hcc := congrArg (fun (y0 : Bool) => (.bool y0 : Value)) hr0; exact hcc)
 ·simp only [bne_eq_false_iff_eq] at hc1
  refine c_skip (q_then (c_seq (c_seq (c_region ?_))))
  refine o_as rfl rfl ?_
  refine o_nil (q_then (c_block ?_))
  refine c_loop (St := Nat)
   (fun i => [(0, .slice aa a.length ca), (1, .slice ab b.length cb), (5, Vi (i : Int))])
   (fun i => [base w0])
   (fun i => i ≤ a.length ∧ ∀ j (h1 : j < a.length) (h2 : j < b.length), j < i → a[j] = b[j])
   (fun i => a.length - i)
   0 ?_ (sr (sr (sr (Sub.nil _)))) (fun _ hw => hw) ?_
  ·exact ⟨Nat.zero_le _, fun j _ _ h => absurd h (by omega)⟩
  rintro i hI K hK2
  obtain ⟨hi, hinv⟩ := hI
  show SC _ _ Tryz.prog 26 w0 _ _ [(0, .slice aa a.length ca), (1, .slice ab b.length cb), (5, Vi (i : Int))] [base w0]
  refine c_seq (c_seq (c_region ?_))
  refine o_mv rfl rfl ?_
  refine o_mv rfl rfl ?_
  refine o_p (p_len_slice rfl rfl Tryz.underlying22) ?_
  refine o_p (p_lt rfl rfl) ?_
  refine o_nil (q_then ?_)
  refine c_cond rfl (fun hc3 => ?_) (fun hc3 => ?_)
  ·simp only [decide_eq_true_eq] at hc3
   refine c_skip (q_then (c_seq (c_block (c_seq ?_))))
   refine c_draw hmix (by kernel_rfl) ?_
   refine w_mv rfl rfl ?_
   refine w_mv rfl rfl ?_
   refine w_p (p_indexAddr (L := a) (T := tInt) (i := (i : Int)) rfl rfl (rd_base (i := 0) rfl ha) Tryz.underlying22 sz3 (by omega) (by omega)) ?_
   refine w_p (p_loadE1 (i := i) (T := tInt) (L := a) (v := Vi (a[i])) rfl (rd_base (i := 0) rfl ha) (by first | assumption | omega) sh3 rfl) ?_
   refine w_mv rfl rfl ?_
   refine w_mv rfl rfl ?_
   refine w_p (p_indexAddr (L := b) (T := tInt) (i := (i : Int)) rfl rfl (rd_base (i := 0) rfl hb) Tryz.underlying22 sz3 (by omega) (by omega)) ?_
   refine w_p (p_loadE1 (i := i) (T := tInt) (L := b) (v := Vi (b[i])) rfl (rd_base (i := 0) rfl hb) (by first | assumption | omega) sh3 rfl) ?_
   refine w_p (p_ne rfl rfl) ?_
   refine w_nil (q_then ?_)
   refine c_cond rfl (fun hc4 => ?_) (fun hc4 => ?_)
   ·simp only [bne_iff_ne, ne_eq] at hc4
    refine c_seq (c_region ?_)
    refine o_as rfl rfl ?_
    refine o_nil (q_then (c_ret ?_))
    refine q_block_ret (q_then_ret (q_then_ret (q_block_ret (q_then_ret ?_))))
    have hr0 : (false : Bool) = (Ref.sameInts a b) := by
     simp only [Ref.sameInts]
     grind [List.ext_getElem]
    refine q_end0 (v := .bool false) (rt1 rfl (r_tmp rfl)) (i := 0) rfl ?_
    exact (by have hcc := congrArg (fun (y0 : Bool) => (.bool y0 : Value)) hr0; exact hcc)
   ·simp only [bne_eq_false_iff_eq] at hc4
    refine c_skip ?_
    refine q_block_normal (q_then ?_)
    refine c_region ?_
    refine o_mv rfl rfl ?_
    refine o_p (p_addb rfl rfl (by omega)) ?_
    refine o_as rfl rfl ?_
    refine o_nil ?_
    refine q_round hK2 (i + 1) ?_ ?_ ?_ ?_
    ·clear hK2
     refine ⟨by omega, ?_⟩
     grind
    ·(try dsimp only); omega
    ·exact sr (sr (sr (Sub.nil _)))
    ·exact pk [0]
  ·simp only [decide_eq_false_iff_not, Int.not_lt] at hc3
   refine c_exit ?_
   refine q_then_exit (q_then_exit (q_block_exit (q_then ?_)))
   refine c_seq (c_region ?_)
   refine o_as rfl rfl ?_
   refine o_nil (q_then (c_ret ?_))
   have hr0 : (true : Bool) = (Ref.sameInts a b) := by
    simp only [Ref.sameInts]
    grind [List.ext_getElem]
   refine q_end0 (v := .bool true) (rt1 rfl (r_tmp rfl)) (i := 0) rfl ?_
   exact (by have hcc := congrArg (fun (y0 : Bool) => (.bool y0 : Value)) hr0; exact hcc)

set_option maxHeartbeats 8000000 in
set_option maxRecDepth 100000 in
theorem traceCheck_ok (l : List Int) (al : Option Addr) (cl : Nat) : Fn0 Tryz.prog 8 [.slice al l.length cl] (fun w => Rd tInt w al cl l) (Vi (Lru.trace l)) := by
 refine fn0 (nt := 19) (F0 := [(0, .slice al l.length cl)]) Tryz.func8 rfl Tryz.ntmps8 rfl rfl (fun w0 hpre => ?_)
 have hl := hpre
 have hlhl := hl.2.1
 refine c_seq (c_region ?_)
 refine o_as rfl rfl ?_
 refine o_nil (q_then (c_seq (c_seq (c_region ?_))))
 refine o_mv rfl rfl ?_
 refine o_p (p_len_slice rfl rfl Tryz.underlying22) ?_
 refine o_p (p_gt rfl rfl) ?_
 refine o_nil (q_then ?_)
 refine c_cond rfl (fun hc1 => ?_) (fun hc1 => ?_)
 ·simp only [decide_eq_true_eq] at hc1
  refine c_seq (c_region ?_)
  refine o_as rfl rfl ?_
  refine o_nil (q_then (c_ret ?_))
  refine q_then_ret ?_
  have hr0 : (2 : Int) = (Lru.trace l) := by
   simp only [Lru.trace, Lru.okKey, Ref.between] at *
   grind [List.any_eq_true, List.mem_iff_getElem]
  refine q_end0 (v := Vi 2) (rt1 rfl (r_tmp rfl)) (i := 0) rfl ?_
  exact (by have hcc := congrArg (fun (y0 : Int) => (.int .i64 y0 : Value)) hr0; exact hcc)
 ·simp only [decide_eq_false_iff_not, Int.not_lt] at hc1
  refine c_skip (q_then (c_seq (c_seq (c_region ?_))))
  refine o_as rfl rfl ?_
  refine o_nil (q_then (c_block ?_))
  refine c_loop (St := Nat)
   (fun i => [(0, .slice al l.length cl), (3, Vi (i : Int))])
   (fun i => [base w0])
   (fun i => i ≤ l.length ∧ ∀ j (h1 : j < l.length), j < i → Lru.okKey l[j] = true)
   (fun i => l.length - i)
   0 ?_ (sr (sr (Sub.nil _))) (fun _ hw => hw) ?_
  ·exact ⟨Nat.zero_le _, fun j _ h => absurd h (by omega)⟩
  rintro i hI K hK2
  obtain ⟨hi, hinv⟩ := hI
  show SC _ _ Tryz.prog 19 w0 _ _ [(0, .slice al l.length cl), (3, Vi (i : Int))] [base w0]
  refine c_seq (c_seq (c_region ?_))
  refine o_mv rfl rfl ?_
  refine o_mv rfl rfl ?_
  refine o_p (p_len_slice rfl rfl Tryz.underlying22) ?_
  refine o_p (p_lt rfl rfl) ?_
  refine o_nil (q_then ?_)
  refine c_cond rfl (fun hc3 => ?_) (fun hc3 => ?_)
  ·simp only [decide_eq_true_eq] at hc3
   refine c_skip (q_then (c_seq (c_block (c_seq (c_region ?_)))))
   refine o_mv rfl rfl ?_
   refine o_mv rfl rfl ?_
   refine o_p (p_indexAddr (L := l) (T := tInt) (i := (i : Int)) rfl rfl (rd_base (i := 0) rfl hl) Tryz.underlying22 sz3 (by omega) (by omega)) ?_
   refine o_p (p_loadE1 (i := i) (T := tInt) (L := l) (v := Vi (l[i])) rfl (rd_base (i := 0) rfl hl) (by first | assumption | omega) sh3 rfl) ?_
   refine o_call0 (v := .bool (Ref.between (l[i]) (0 : Int) (1048576 : Int))) rfl (between_ok (l[i]) (0 : Int) (1048576 : Int)) hf22 (fun _ _ => trivial) rfl ?_
   refine o_p (p_not (b := (Ref.between (l[i]) (0 : Int) (1048576 : Int))) rfl) ?_
   refine o_nil (q_then ?_)
   refine c_cond rfl (fun hc4 => ?_) (fun hc4 => ?_)
   ·simp only [Bool.not_eq_true'] at hc4
    refine c_seq (c_region ?_)
    refine o_as rfl rfl ?_
    refine o_nil (q_then (c_ret ?_))
    refine q_block_ret (q_then_ret (q_then_ret (q_block_ret (q_then_ret ?_))))
    have hr0 : (3 : Int) = (Lru.trace l) := by
     simp only [Lru.trace, Lru.okKey, Ref.between] at *
     grind [List.any_eq_true, List.mem_iff_getElem]
    refine q_end0 (v := Vi 3) (rt1 rfl (r_tmp rfl)) (i := 0) rfl ?_
    exact (by have hcc := congrArg (fun (y0 : Int) => (.int .i64 y0 : Value)) hr0; exact hcc)
   ·simp only [Bool.not_eq_false'] at hc4
    refine c_skip ?_
    refine q_block_normal (q_then ?_)
    refine c_region ?_
    refine o_mv rfl rfl ?_
    refine o_p (p_addb rfl rfl (by omega)) ?_
    refine o_as rfl rfl ?_
    refine o_nil ?_
    refine q_round hK2 (i + 1) ?_ ?_ ?_ ?_
    ·clear hK2
     refine ⟨by omega, ?_⟩
     simp only [Lru.okKey, Ref.between] at *
     grind
    ·(try dsimp only); omega
    ·exact sr (sr (Sub.nil _))
    ·exact pk [0]
  ·simp only [decide_eq_false_iff_not, Int.not_lt] at hc3
   refine c_exit ?_
   refine q_then_exit (q_then_exit (q_block_exit (q_then ?_)))
   refine c_seq (c_region ?_)
   refine o_as rfl rfl ?_
   refine o_nil (q_then (c_ret ?_))
   have hr0 : (0 : Int) = (Lru.trace l) := by
    simp only [Lru.trace, Lru.okKey, Ref.between] at *
    grind [List.any_eq_true, List.mem_iff_getElem]
   refine q_end0 (v := Vi 0) (rt1 rfl (r_tmp rfl)) (i := 0) rfl ?_
   exact (by have hcc := congrArg (fun (y0 : Int) => (.int .i64 y0 : Value)) hr0; exact hcc)

set_option maxHeartbeats 8000000 in
set_option maxRecDepth 100000 in
theorem lruTouch_ok (c : DCache) (ac_0 : Option Addr) (cc_0 : Nat) (key : Int) (hy1 : Lru.Ok c) : FnM Tryz.prog 42 [.agg #[Vi c.room, .slice ac_0 c.keys.length cc_0], Vi key] (fun w => Rd tInt w ac_0 cc_0 c.keys) (Option Addr × Nat) (fun p => .tuple #[.agg #[Vi (((Lru.touch c key).1).room), .slice p.1 (((Lru.touch c key).1).keys).length p.2], .bool ((Lru.touch c key).2.1), Vi ((Lru.touch c key).2.2)]) (fun p S w => SlO tInt S w p.1 p.2 (((Lru.touch c key).1).keys)) := by
 refine fnM (nt := 56) (F0 := [(0, .agg #[Vi c.room, .slice ac_0 c.keys.length cc_0]), (1, Vi key)]) Tryz.func42 rfl Tryz.ntmps42 rfl rfl (fun w0 hpre => ?_)
 have hc_0 := hpre
 have hlhc_0 := hc_0.2.1
 have hroom := hy1.room
 have hlen := hy1.len
 refine c_seq (c_region ?_)
 refine o_box (v := .agg #[Vi c.room, .slice ac_0 c.keys.length cc_0]) rfl rfl (fun B1 => ?_)
 refine o_alloc ze44 rfl (fun B2 => ?_)
 refine o_as rfl rfl ?_
 refine o_as rfl rfl ?_
 refine o_nil (q_then (c_seq (c_region ?_)))
 refine o_p (p_fieldAddr (j' := 0) rfl fo44_0 rfl) ?_
 refine o_p (p_load (i := 1) (v := Vi c.room) rfl rfl sh3 rfl) ?_
 refine o_mv rfl rfl ?_
 refine o_buildSlice (m := 1) (T := tInt) (L := [key]) (vs := [Vi key]) rfl rfl rfl rfl Tryz.underlying22 sz3 (by decide) ze3 rfl (by decide) rfl (fun S3 a4 => ?_)
 refine o_p (p_build (cells := [Vi c.room, .slice a4 ([key]).length ([key].length)]) fp44 ze44 rfl rfl) ?_
 refine o_alloc ze44 rfl (fun B6 => ?_)
 refine o_storeN (i := 0) (vs := [Vi c.room, .slice a4 ([key]).length ([key].length)]) (cs' := [Vi c.room, .slice a4 ([key]).length ([key].length)]) rfl rfl rfl sz44 rfl rfl rfl rfl ?_
 refine o_nil (q_then (c_seq (c_region ?_)))
 refine o_as rfl rfl ?_
 refine o_nil (q_then (c_seq (c_seq (c_region ?_))))
 refine o_as rfl rfl ?_
 refine o_nil (q_then (c_block ?_))
 refine c_loop (St := Int × Nat × DCache × Option Addr × Nat × (Nat → Prop))
  (fun ⟨gone, i, oc, aoc_0, coc_0, Soc_0⟩ => [(1, Vi key), (2, .pointer (some ⟨B1, 0, none⟩)), (4, .pointer (some ⟨B2, 0, none⟩)), (7, .pointer (some ⟨B6, 0, none⟩)), (8, Vi gone), (9, Vi (i : Int))])
  (fun ⟨gone, i, oc, aoc_0, coc_0, Soc_0⟩ => [box B6 [Vi oc.room, .slice aoc_0 oc.keys.length coc_0] 44, own tInt Soc_0 aoc_0 coc_0 oc.keys, box B2 [Vi 0, .slice none 0 0] 44, box B1 [Vi c.room, .slice ac_0 c.keys.length cc_0] 44, base w0])
  (fun ⟨gone, i, oc, aoc_0, coc_0, Soc_0⟩ => Lru.TInv c key oc gone i)
  (fun ⟨gone, i, oc, aoc_0, coc_0, Soc_0⟩ => c.keys.length - i)
  ((-1), 0, (⟨c.room, [key]⟩ : DCache), a4, [key].length, S3) ?_ (sr (sr (sr (sr (sr (sr (Sub.nil _))))))) (fun _ hw => hw) ?_
 ·exact Lru.TInv.start hy1 key
 rintro ⟨gone, i, oc, aoc_0, coc_0, Soc_0⟩ hI K hK7
 have hol := hI.olen
 show SC _ _ Tryz.prog 56 w0 _ _ [(1, Vi key), (2, .pointer (some ⟨B1, 0, none⟩)), (4, .pointer (some ⟨B2, 0, none⟩)), (7, .pointer (some ⟨B6, 0, none⟩)), (8, Vi gone), (9, Vi (i : Int))] [box B6 [Vi oc.room, .slice aoc_0 oc.keys.length coc_0] 44, own tInt Soc_0 aoc_0 coc_0 oc.keys, box B2 [Vi 0, .slice none 0 0] 44, box B1 [Vi c.room, .slice ac_0 c.keys.length cc_0] 44, base w0]
 refine c_seq (c_seq (c_region ?_))
 refine o_mv rfl rfl ?_
 refine o_p (p_fieldAddr (j' := 1) rfl fo44_1 rfl) ?_
 refine o_p (p_load (i := 3) (v := .slice ac_0 c.keys.length cc_0) rfl rfl sh22 rfl) ?_
 refine o_p (p_len_slice rfl rfl Tryz.underlying22) ?_
 refine o_p (p_lt rfl rfl) ?_
 refine o_nil (q_then ?_)
 refine c_cond rfl (fun hc8 => ?_) (fun hc8 => ?_)
 ·simp only [decide_eq_true_eq] at hc8
  refine c_skip (q_then (c_seq (c_block (c_seq (c_seq (c_region ?_))))))
  refine o_p (p_fieldAddr (j' := 1) rfl fo44_1 rfl) ?_
  refine o_p (p_load (i := 3) (v := .slice ac_0 c.keys.length cc_0) rfl rfl sh22 rfl) ?_
  refine o_mv rfl rfl ?_
  refine o_p (p_indexAddr (L := c.keys) (T := tInt) (i := (i : Int)) rfl rfl (rd_base (i := 4) rfl hc_0) Tryz.underlying22 sz3 (by omega) (by omega)) ?_
  refine o_p (p_loadE1 (i := i) (T := tInt) (L := c.keys) (v := Vi (c.keys[i])) rfl (rd_base (i := 4) rfl hc_0) (by first | assumption | omega) sh3 rfl) ?_
  refine o_mv rfl rfl ?_
  refine o_p (p_eq rfl rfl) ?_
  refine o_nil (q_then ?_)
  refine c_cond rfl (fun hc9 => ?_) (fun hc9 => ?_)
  ·simp only [beq_iff_eq] at hc9
   refine c_exit ?_
   refine q_then_exit (q_block_exit (q_then ?_))
   refine c_region ?_
   refine o_mv rfl rfl ?_
   refine o_p (p_addb rfl rfl (by omega)) ?_
   refine o_as rfl rfl ?_
   refine o_nil ?_
   refine q_round hK7 (gone, i + 1, oc, aoc_0, coc_0, Soc_0) ?_ ?_ ?_ ?_
   ·clear hK7
    first | exact hI.skip (by omega) (by assumption) | exact hI.add (by omega) (by assumption) (by assumption) | exact hI.drop (by omega) (by assumption) (by assumption)
   ·(try dsimp only); omega
   ·exact sr (sr (sr (sr (sr (sr (Sub.nil _))))))
   ·exact pk [0, 1, 2, 3, 4]
  ·simp only [beq_eq_false_iff_ne, ne_eq] at hc9
   refine c_skip (q_then (c_seq (c_region ?_)))
   refine o_p (p_fieldAddr (j' := 1) rfl fo44_1 rfl) ?_
   refine o_p (p_load (i := 0) (v := .slice aoc_0 oc.keys.length coc_0) rfl rfl sh22 rfl) ?_
   refine o_p (p_len_slice rfl rfl Tryz.underlying22) ?_
   refine o_p (p_fieldAddr (j' := 0) rfl fo44_0 rfl) ?_
   refine o_p (p_load (i := 3) (v := Vi c.room) rfl rfl sh3 rfl) ?_
   refine o_p (p_lt rfl rfl) ?_
   refine o_nil (q_then ?_)
   refine c_cond rfl (fun hc10 => ?_) (fun hc10 => ?_)
   ·simp only [decide_eq_true_eq] at hc10
    refine c_cut (G := (Nat → Prop) × Option Addr × Option Addr × Nat × (Nat → Prop)) (fun ⟨S11_7, a11_7, a11_8, c11_8, S11_8⟩ => [(1, Vi key), (2, .pointer (some ⟨B1, 0, none⟩)), (4, .pointer (some ⟨B2, 0, none⟩)), (7, .pointer (some ⟨B6, 0, none⟩)), (8, Vi gone), (9, Vi (i : Int))]) (fun ⟨S11_7, a11_7, a11_8, c11_8, S11_8⟩ => [own tInt S11_7 a11_7 ([c.keys[i]].length) ([c.keys[i]]), box B6 [Vi oc.room, .slice a11_8 (oc.keys ++ [c.keys[i]]).length c11_8] 44, own tInt S11_8 a11_8 c11_8 (oc.keys ++ [c.keys[i]]), box B2 [Vi 0, .slice none 0 0] 44, box B1 [Vi c.room, .slice ac_0 c.keys.length cc_0] 44, base w0]) (fun K hK12 => ?_) ?_
    ·refine c_held hmix [box B2 [Vi 0, .slice none 0 0] 44, box B1 [Vi c.room, .slice ac_0 c.keys.length cc_0] 44, base w0] rfl rfl ?_
     refine h_tk (i := 0) (ls := #[T1,F0,F0,F0,F0,F0,F0,F0,F0,F0,F0]) rfl (p_fieldAddr (j' := 1) rfl fo44_1 rfl) (dp (lz (lz (lj (lj (lj (ln))))))) ?_
     refine h_tk (i := 2) (ls := #[T1,F0,T1,F0,F0,F0,F0,F0,F0,F0,F0]) rfl (p_fieldAddr (j' := 1) rfl fo44_1 rfl) (dp (lz (lz (lj (lj (lj (ln))))))) ?_
     refine h_tk (i := 3) (ls := #[T1,F0,T1,T1,F0,F0,F0,F0,F0,F0,F0]) rfl (p_load (i := 1) (v := .slice ac_0 c.keys.length cc_0) rfl rfl sh22 rfl) (dp (lz (lz (lj (lj (lj (ln))))))) ?_
     refine h_tk (i := 4) (ls := #[T1,F0,T1,T1,T1,F0,F0,F0,F0,F0,F0]) rfl (p_move rfl) (dp (lz (lz (lj (lj (lj (ln))))))) ?_
     refine h_tk (i := 5) (ls := #[T1,F0,T1,T1,T1,T1,F0,F0,F0,F0,F0]) rfl (p_indexAddr (L := c.keys) (T := tInt) (i := (i : Int)) rfl rfl (rd_base (i := 2) rfl hc_0) Tryz.underlying22 sz3 (by omega) (by omega)) (dp (lz (lz (lj (lj (lj (ln))))))) ?_
     refine h_tk (i := 6) (ls := #[T1,F0,T1,T1,T1,T1,T1,F0,F0,F0,F0]) rfl (p_loadE1 (i := i) (T := tInt) (L := c.keys) (v := Vi (c.keys[i])) rfl (rd_base (i := 2) rfl hc_0) (by first | assumption | omega) sh3 rfl) (dp (lz (lz (lj (lj (lj (ln))))))) ?_
     refine h_two (i := 1) (j := 7) (ls := #[T1,T1,T1,T1,T1,T1,T1,F0,F0,F0,F0]) (ls' := #[T1,F0,T1,T1,T1,T1,T1,T1,F0,F0,F0]) (by kernel_rfl) rfl rfl rfl rfl ?_ ?_
     ·refine o_p (p_load (i := 0) (v := .slice aoc_0 oc.keys.length coc_0) rfl rfl sh22 rfl) ?_
      refine o_nil ?_
      refine h_next (dp (lz (lz (lj (lj (lj (ln))))))) ?_
      refine h_one (i := 7) (ls := #[T1,T1,T1,T1,T1,T1,T1,T1,F0,F0,F0]) (by kernel_rfl) rfl rfl ?_
      refine o_buildSlice (m := 1) (T := tInt) (L := [c.keys[i]]) (vs := [Vi (c.keys[i])]) rfl rfl rfl rfl Tryz.underlying22 sz3 (by decide) ze3 rfl (by decide) rfl (fun S11_7 a11_7 => ?_)
      refine o_nil ?_
      refine h_next (dp (lz (lz (lz (lj (lj (lj (ln)))))))) ?_
      refine h_one (i := 8) (ls := #[T1,T1,T1,T1,T1,T1,T1,T1,T1,F0,F0]) (by kernel_rfl) rfl rfl ?_
      refine o_append (i := 2) (L := oc.keys) (M := [c.keys[i]]) (T := tInt) rfl rfl rfl (rd_own (i := 0) rfl) Tryz.underlying22 Tryz.underlying22 (by intro k h; cases h) el3 (by intro z; simp [tInt, one1]) (by decide) (by first | omega | (simp only [List.length_cons, List.length_nil]; omega) | (simp only [List.length_append, List.length_cons, List.length_nil, List.length_take, List.length_drop]; omega)) rfl (fun a11_8 c11_8 S11_8 => ?_)
      refine o_nil ?_
      refine h_next (dp (lz (lz (lz (lj (lj (lj (ln)))))))) ?_
      refine h_tk (i := 9) (ls := #[T1,T1,T1,T1,T1,T1,T1,T1,T1,T1,F0]) rfl (p_fieldAddr (j' := 1) rfl fo44_1 rfl) (dp (lz (lz (lz (lj (lj (lj (ln)))))))) ?_
      refine h_one (i := 10) (ls := #[T1,T1,T1,T1,T1,T1,T1,T1,T1,T1,T1]) (by kernel_rfl) rfl rfl ?_
      refine o_store (i := 1) (v := .slice a11_8 (oc.keys ++ [c.keys[i]]).length c11_8) (cs' := [Vi oc.room, .slice a11_8 (oc.keys ++ [c.keys[i]]).length c11_8]) rfl rfl rfl sz22 rfl rfl rfl ?_
      refine o_nil ?_
      refine h_next (dp (lz (lz (lz (lj (lj (lj (ln)))))))) ?_
      refine h_done (by kernel_rfl) ?_
      refine q_kont hK12 (S11_7, a11_7, a11_8, c11_8, S11_8) (sr (sr (sr (sr (sr (sr (Sub.nil _))))))) (pk [0, 1, 2, 3, 4, 5])
     ·refine o_buildSlice (m := 1) (T := tInt) (L := [c.keys[i]]) (vs := [Vi (c.keys[i])]) rfl rfl rfl rfl Tryz.underlying22 sz3 (by decide) ze3 rfl (by decide) rfl (fun S11_7 a11_7 => ?_)
      refine o_nil ?_
      refine h_next (dp (lz (lz (lz (lj (lj (lj (ln)))))))) ?_
      refine h_one (i := 1) (ls := #[T1,T1,T1,T1,T1,T1,T1,T1,F0,F0,F0]) (by kernel_rfl) rfl rfl ?_
      refine o_p (p_load (i := 1) (v := .slice aoc_0 oc.keys.length coc_0) rfl rfl sh22 rfl) ?_
      refine o_nil ?_
      refine h_next (dp (lz (lz (lz (lj (lj (lj (ln)))))))) ?_
      refine h_one (i := 8) (ls := #[T1,T1,T1,T1,T1,T1,T1,T1,T1,F0,F0]) (by kernel_rfl) rfl rfl ?_
      refine o_append (i := 2) (L := oc.keys) (M := [c.keys[i]]) (T := tInt) rfl rfl rfl (rd_own (i := 0) rfl) Tryz.underlying22 Tryz.underlying22 (by intro k h; cases h) el3 (by intro z; simp [tInt, one1]) (by decide) (by first | omega | (simp only [List.length_cons, List.length_nil]; omega) | (simp only [List.length_append, List.length_cons, List.length_nil, List.length_take, List.length_drop]; omega)) rfl (fun a11_8 c11_8 S11_8 => ?_)
      refine o_nil ?_
      refine h_next (dp (lz (lz (lz (lj (lj (lj (ln)))))))) ?_
      refine h_tk (i := 9) (ls := #[T1,T1,T1,T1,T1,T1,T1,T1,T1,T1,F0]) rfl (p_fieldAddr (j' := 1) rfl fo44_1 rfl) (dp (lz (lz (lz (lj (lj (lj (ln)))))))) ?_
      refine h_one (i := 10) (ls := #[T1,T1,T1,T1,T1,T1,T1,T1,T1,T1,T1]) (by kernel_rfl) rfl rfl ?_
      refine o_store (i := 1) (v := .slice a11_8 (oc.keys ++ [c.keys[i]]).length c11_8) (cs' := [Vi oc.room, .slice a11_8 (oc.keys ++ [c.keys[i]]).length c11_8]) rfl rfl rfl sz22 rfl rfl rfl ?_
      refine o_nil ?_
      refine h_next (dp (lz (lz (lz (lj (lj (lj (ln)))))))) ?_
      refine h_done (by kernel_rfl) ?_
      refine q_kont hK12 (S11_7, a11_7, a11_8, c11_8, S11_8) (sr (sr (sr (sr (sr (sr (Sub.nil _))))))) (pk [0, 1, 2, 3, 4, 5])
    rintro ⟨S11_7, a11_7, a11_8, c11_8, S11_8⟩
    show SQ _ 56 w0 _ _ [(1, Vi key), (2, .pointer (some ⟨B1, 0, none⟩)), (4, .pointer (some ⟨B2, 0, none⟩)), (7, .pointer (some ⟨B6, 0, none⟩)), (8, Vi gone), (9, Vi (i : Int))] [own tInt S11_7 a11_7 ([c.keys[i]].length) ([c.keys[i]]), box B6 [Vi oc.room, .slice a11_8 (oc.keys ++ [c.keys[i]]).length c11_8] 44, own tInt S11_8 a11_8 c11_8 (oc.keys ++ [c.keys[i]]), box B2 [Vi 0, .slice none 0 0] 44, box B1 [Vi c.room, .slice ac_0 c.keys.length cc_0] 44, base w0]
    refine q_cast (F' := [(1, Vi key), (2, .pointer (some ⟨B1, 0, none⟩)), (4, .pointer (some ⟨B2, 0, none⟩)), (7, .pointer (some ⟨B6, 0, none⟩)), (8, Vi gone), (9, Vi (i : Int))]) (H := [own tInt S11_7 a11_7 ([c.keys[i]].length) ([c.keys[i]]), box B6 [Vi oc.room, .slice a11_8 (oc.keys ++ [c.keys[i]]).length c11_8] 44, own tInt S11_8 a11_8 c11_8 (oc.keys ++ [c.keys[i]]), box B2 [Vi 0, .slice none 0 0] 44, box B1 [Vi c.room, .slice ac_0 c.keys.length cc_0] 44, base w0]) (H' := [own tInt S11_7 a11_7 ([c.keys[i]].length) ([c.keys[i]]), box B6 [Vi oc.room, .slice a11_8 (oc.keys ++ [c.keys[i]]).length c11_8] 44, own tInt S11_8 a11_8 c11_8 (oc.keys ++ [c.keys[i]]), box B2 [Vi 0, .slice none 0 0] 44, box B1 [Vi c.room, .slice ac_0 c.keys.length cc_0] 44, base w0]) (sr (sr (sr (sr (sr (sr (Sub.nil _))))))) (by rfl) ?_
    refine q_block_normal (q_then ?_)
    refine c_region ?_
    refine o_mv rfl rfl ?_
    refine o_p (p_addb rfl rfl (by omega)) ?_
    refine o_as rfl rfl ?_
    refine o_nil ?_
    refine q_round hK7 (gone, i + 1, (⟨oc.room, (oc.keys ++ [c.keys[i]])⟩ : DCache), a11_8, c11_8, S11_8) ?_ ?_ ?_ ?_
    ·clear hK7
     first | exact hI.skip (by omega) (by assumption) | exact hI.add (by omega) (by assumption) (by assumption) | exact hI.drop (by omega) (by assumption) (by assumption)
    ·(try dsimp only); omega
    ·exact sr (sr (sr (sr (sr (sr (Sub.nil _))))))
    ·exact pk [1, 2, 3, 4, 5]
   ·simp only [decide_eq_false_iff_not, Int.not_lt] at hc10
    refine c_region ?_
    refine o_p (p_fieldAddr (j' := 1) rfl fo44_1 rfl) ?_
    refine o_p (p_load (i := 3) (v := .slice ac_0 c.keys.length cc_0) rfl rfl sh22 rfl) ?_
    refine o_mv rfl rfl ?_
    refine o_p (p_indexAddr (L := c.keys) (T := tInt) (i := (i : Int)) rfl rfl (rd_base (i := 4) rfl hc_0) Tryz.underlying22 sz3 (by omega) (by omega)) ?_
    refine o_p (p_loadE1 (i := i) (T := tInt) (L := c.keys) (v := Vi (c.keys[i])) rfl (rd_base (i := 4) rfl hc_0) (by first | assumption | omega) sh3 rfl) ?_
    refine o_as rfl rfl ?_
    refine o_nil ?_
    refine q_block_normal (q_then ?_)
    refine c_region ?_
    refine o_mv rfl rfl ?_
    refine o_p (p_addb rfl rfl (by omega)) ?_
    refine o_as rfl rfl ?_
    refine o_nil ?_
    refine q_round hK7 (c.keys[i], i + 1, oc, aoc_0, coc_0, Soc_0) ?_ ?_ ?_ ?_
    ·clear hK7
     first | exact hI.skip (by omega) (by assumption) | exact hI.add (by omega) (by assumption) (by assumption) | exact hI.drop (by omega) (by assumption) (by assumption)
    ·(try dsimp only); omega
    ·exact sr (sr (sr (sr (sr (sr (Sub.nil _))))))
    ·exact pk [0, 1, 2, 3, 4]
 ·simp only [decide_eq_false_iff_not, Int.not_lt] at hc8
  refine c_exit ?_
  refine q_then_exit (q_then_exit (q_block_exit (q_then ?_)))
  refine c_seq ?_
  refine c_held hmix [box B6 [Vi oc.room, .slice aoc_0 oc.keys.length coc_0] 44, own tInt Soc_0 aoc_0 coc_0 oc.keys, box B1 [Vi c.room, .slice ac_0 c.keys.length cc_0] 44, base w0] rfl rfl ?_
  refine h_tk (i := 0) (ls := #[T1,F0,F0,F0,F0,F0,F0,F0,F0]) rfl (p_load_agg (i := 0) (vs := [Vi oc.room, .slice aoc_0 oc.keys.length coc_0]) rfl rfl sh44 rfl rfl) (dp (lj (lj (lz (lj (lj (ln))))))) ?_
  refine h_tk (i := 1) (ls := #[T1,T1,F0,F0,F0,F0,F0,F0,F0]) rfl (p_fieldAddr (j' := 1) rfl fo44_1 rfl) (dp (lj (lj (lz (lj (lj (ln))))))) ?_
  refine h_tk (i := 2) (ls := #[T1,T1,T1,F0,F0,F0,F0,F0,F0]) rfl (p_load (i := 2) (v := .slice ac_0 c.keys.length cc_0) rfl rfl sh22 rfl) (dp (lj (lj (lz (lj (lj (ln))))))) ?_
  refine h_tk (i := 3) (ls := #[T1,T1,T1,T1,F0,F0,F0,F0,F0]) rfl (p_move rfl) (dp (lj (lj (lz (lj (lj (ln))))))) ?_
  refine h_tk (i := 5) (ls := #[T1,T1,T1,T1,F0,T1,F0,F0,F0]) rfl (p_move rfl) (dp (lj (lj (lz (lj (lj (ln))))))) ?_
  refine h_one (i := 4) (ls := #[T1,T1,T1,T1,T1,T1,F0,F0,F0]) (by kernel_rfl) rfl rfl ?_
  refine o_call0 (v := .bool (Ref.hasInt c.keys key)) rfl (hasInt_ok c.keys ac_0 cc_0 key) hf10 (fun w hw => (rd_base (i := 4) rfl hc_0) w hw) rfl ?_
  refine o_nil ?_
  refine h_next (dp (lj (lj (lz (lj (lj (ln))))))) ?_
  refine h_one (i := 6) (ls := #[T1,T1,T1,T1,T1,T1,T1,F0,F0]) (by kernel_rfl) rfl rfl ?_
  refine o_storeN (i := 2) (vs := [Vi oc.room, .slice aoc_0 oc.keys.length coc_0]) (cs' := [Vi oc.room, .slice aoc_0 oc.keys.length coc_0]) rfl rfl rfl sz44 rfl rfl rfl rfl ?_
  refine o_nil ?_
  refine h_next (dp (lj (lj (lz (lj (lj (ln))))))) ?_
  refine h_tk (i := 7) (ls := #[T1,T1,T1,T1,T1,T1,T1,T1,F0]) rfl (p_assign rfl) (dp (lj (lj (lz (lj (lj (ln))))))) ?_
  refine h_tk (i := 8) (ls := #[T1,T1,T1,T1,T1,T1,T1,T1,T1]) rfl (p_assign rfl) (dp (lj (lj (lz (lj (lj (ln))))))) ?_
  refine h_done (by kernel_rfl) ?_
  refine q_then (c_ret ?_)
  obtain ⟨hd1, hd2⟩ := hI.done hy1 (by omega)
  have hr0 : (oc.room : Int) = ((Lru.touch c key).1).room := by
   first | exact hI.room | exact hd1 | exact hd2 | rfl | simp [Ref.hasInt, Lru.touch]
  have hr1 : (oc.keys : List Int) = ((Lru.touch c key).1).keys := by
   first | exact hI.room | exact hd1 | exact hd2 | rfl | simp [Ref.hasInt, Lru.touch]
  have hr2 : ((Ref.hasInt c.keys key) : Bool) = ((Lru.touch c key).2.1) := by
   first | exact hI.room | exact hd1 | exact hd2 | rfl | simp [Ref.hasInt, Lru.touch]
  have hr3 : (gone : Int) = ((Lru.touch c key).2.2) := by
   first | exact hI.room | exact hd1 | exact hd2 | rfl | simp [Ref.hasInt, Lru.touch]
  refine q_endM (p := (aoc_0, coc_0)) Soc_0 (rt3 rfl (r_cell (i := 2) rfl rfl sh44 rfl) (r_tmp rfl) (r_tmp rfl)) (i := 4) rfl ?_ ?_ ?_
  ·exact (by have hcc := congr (congr (congr (congrArg (fun (y0 : Int) (y1 : List Int) (y2 : Bool) (y3 : Int) => (.tuple #[.agg #[.int .i64 y0, .slice aoc_0 y1.length coc_0], .bool y2, .int .i64 y3] : Value)) hr0) hr1) hr2) hr3; exact hcc)
  ·exact fun w hw => hw.above (i := 4) (j := 1) (by decide) rfl rfl
  ·intro w hw; exact Eq.mp (congrArg (fun y => SlO tInt _ w aoc_0 coc_0 y) hr1) ((hw.at (i := 1) rfl).here)

set_option maxHeartbeats 8000000 in
set_option maxRecDepth 100000 in
theorem lruRun_ok (c : DCache) (ac_0 : Option Addr) (cc_0 : Nat) (l : List Int) (al : Option Addr) (cl : Nat) (hy1 : Lru.Ok c ∧ ∀ x ∈ l, Lru.okKey x = true) : FnM Tryz.prog 23 [.agg #[Vi c.room, .slice ac_0 c.keys.length cc_0], .slice al l.length cl] (fun w => Rd tInt w ac_0 cc_0 c.keys ∧ Rd tInt w al cl l) (Option Addr × Nat) (fun p => .tuple #[.agg #[Vi (((Lru.runGo c 0 l).1).room), .slice p.1 (((Lru.runGo c 0 l).1).keys).length p.2], Vi ((Lru.runGo c 0 l).2)]) (fun p S w => (SlR tInt S w p.1 p.2 (((Lru.runGo c 0 l).1).keys) ∨ (p.1 = ac_0 ∧ p.2 = cc_0 ∧ (((Lru.runGo c 0 l).1).keys) = c.keys))) := by
 refine fnM (nt := 33) (F0 := [(0, .agg #[Vi c.room, .slice ac_0 c.keys.length cc_0]), (1, .slice al l.length cl)]) Tryz.func23 rfl Tryz.ntmps23 rfl rfl (fun w0 hpre => ?_)
 obtain ⟨hc_0, hl⟩ := hpre
 have hlhc_0 := hc_0.2.1
 have hlhl := hl.2.1
 refine c_seq (c_region ?_)
 refine o_box (v := .agg #[Vi c.room, .slice ac_0 c.keys.length cc_0]) rfl rfl (fun B1 => ?_)
 refine o_alloc ze44 rfl (fun B2 => ?_)
 refine o_as rfl rfl ?_
 refine o_nil (q_then (c_seq (c_region ?_)))
 refine o_as rfl rfl ?_
 refine o_nil (q_then (c_seq (c_seq (c_region ?_))))
 refine o_as rfl rfl ?_
 refine o_nil (q_then (c_block ?_))
 refine c_heap (H' := [loose tInt (ac_0 = ac_0 ∧ cc_0 = cc_0 ∧ c.keys = c.keys) (fun _ => False) ac_0 cc_0 c.keys, box B2 [Vi 0, .slice none 0 0] 44, box B1 [Vi c.room, .slice ac_0 c.keys.length cc_0] 44, base w0]) (fun w hw => HeapIs.looseOf ⟨rfl, rfl, rfl⟩ hw) ?_
 refine c_loop (St := Int × Nat × DCache × Option Addr × Nat × (Nat → Prop))
  (fun ⟨hits, i, cc, acc_0, ccc_0, Scc_0⟩ => [(1, .slice al l.length cl), (2, .pointer (some ⟨B1, 0, none⟩)), (4, .pointer (some ⟨B2, 0, none⟩)), (6, Vi hits), (7, Vi (i : Int))])
  (fun ⟨hits, i, cc, acc_0, ccc_0, Scc_0⟩ => [loose tInt (acc_0 = ac_0 ∧ ccc_0 = cc_0 ∧ cc.keys = c.keys) Scc_0 acc_0 ccc_0 cc.keys, box B2 [Vi 0, .slice none 0 0] 44, box B1 [Vi cc.room, .slice acc_0 cc.keys.length ccc_0] 44, base w0])
  (fun ⟨hits, i, cc, acc_0, ccc_0, Scc_0⟩ => Lru.RInv c cc l hits i)
  (fun ⟨hits, i, cc, acc_0, ccc_0, Scc_0⟩ => l.length - i)
  (0, 0, c, ac_0, cc_0, (fun _ => False)) ?_ (sr (sr (sr (sr (sr (Sub.nil _)))))) (fun _ hw => hw) ?_
 ·exact Lru.RInv.start hy1.1 hy1.2
 rintro ⟨hits, i, cc, acc_0, ccc_0, Scc_0⟩ hI K hK4
 have hn0 := hI.n0
 have hn1 := hI.n1
 show SC _ _ Tryz.prog 33 w0 _ _ [(1, .slice al l.length cl), (2, .pointer (some ⟨B1, 0, none⟩)), (4, .pointer (some ⟨B2, 0, none⟩)), (6, Vi hits), (7, Vi (i : Int))] [loose tInt (acc_0 = ac_0 ∧ ccc_0 = cc_0 ∧ cc.keys = c.keys) Scc_0 acc_0 ccc_0 cc.keys, box B2 [Vi 0, .slice none 0 0] 44, box B1 [Vi cc.room, .slice acc_0 cc.keys.length ccc_0] 44, base w0]
 refine c_seq (c_seq (c_region ?_))
 refine o_mv rfl rfl ?_
 refine o_mv rfl rfl ?_
 refine o_p (p_len_slice rfl rfl Tryz.underlying22) ?_
 refine o_p (p_lt rfl rfl) ?_
 refine o_nil (q_then ?_)
 refine c_cond rfl (fun hc5 => ?_) (fun hc5 => ?_)
 ·simp only [decide_eq_true_eq] at hc5
  refine c_skip (q_then (c_seq (c_block (c_seq ?_))))
  refine c_cut (G := (Nat → Prop) × Option Addr × Nat × Nat) (fun ⟨S6_5, a6_5, c6_5, B6_10⟩ => [(1, .slice al l.length cl), (2, .pointer (some ⟨B1, 0, none⟩)), (4, .pointer (some ⟨B2, 0, none⟩)), (6, Vi hits), (7, Vi (i : Int)), (8, .pointer (some ⟨B6_10, 0, none⟩)), (9, .bool ((Lru.touch cc (l[i])).2.1))]) (fun ⟨S6_5, a6_5, c6_5, B6_10⟩ => [box B6_10 [Vi (((Lru.touch cc (l[i])).1).room), .slice a6_5 (((Lru.touch cc (l[i])).1).keys).length c6_5] 44, own tInt S6_5 a6_5 c6_5 (((Lru.touch cc (l[i])).1).keys), loose tInt (acc_0 = ac_0 ∧ ccc_0 = cc_0 ∧ cc.keys = c.keys) Scc_0 acc_0 ccc_0 cc.keys, box B2 [Vi 0, .slice none 0 0] 44, box B1 [Vi cc.room, .slice acc_0 cc.keys.length ccc_0] 44, base w0]) (fun K hK7 => ?_) ?_
  ·refine c_held hmix [loose tInt (acc_0 = ac_0 ∧ ccc_0 = cc_0 ∧ cc.keys = c.keys) Scc_0 acc_0 ccc_0 cc.keys, box B2 [Vi 0, .slice none 0 0] 44, box B1 [Vi cc.room, .slice acc_0 cc.keys.length ccc_0] 44, base w0] rfl rfl ?_
   refine h_t0 (i := 0) (ls := #[T1,F0,F0,F0,F0,F0,F0,F0,F0,F0,F0,F0,F0,F0]) rfl (p_load_agg (i := 2) (vs := [Vi cc.room, .slice acc_0 cc.keys.length ccc_0]) rfl rfl sh44 rfl rfl) ?_
   refine h_t0 (i := 1) (ls := #[T1,T1,F0,F0,F0,F0,F0,F0,F0,F0,F0,F0,F0,F0]) rfl (p_move rfl) ?_
   refine h_t0 (i := 2) (ls := #[T1,T1,T1,F0,F0,F0,F0,F0,F0,F0,F0,F0,F0,F0]) rfl (p_move rfl) ?_
   refine h_t0 (i := 3) (ls := #[T1,T1,T1,T1,F0,F0,F0,F0,F0,F0,F0,F0,F0,F0]) rfl (p_indexAddr (L := l) (T := tInt) (i := (i : Int)) rfl rfl (rd_base (i := 3) rfl hl) Tryz.underlying22 sz3 (by omega) (by omega)) ?_
   refine h_t0 (i := 4) (ls := #[T1,T1,T1,T1,T1,F0,F0,F0,F0,F0,F0,F0,F0,F0]) rfl (p_loadE1 (i := i) (T := tInt) (L := l) (v := Vi (l[i])) rfl (rd_base (i := 3) rfl hl) (by first | assumption | omega) sh3 rfl) ?_
   refine h_two (i := 5) (j := 10) (ls := #[T1,T1,T1,T1,T1,T1,F0,F0,F0,F0,F0,F0,F0,F0]) (ls' := #[T1,T1,T1,T1,T1,F0,F0,F0,F0,F0,T1,F0,F0,F0]) (by kernel_rfl) rfl rfl rfl rfl ?_ ?_
   ·refine o_callM rfl (lruTouch_ok cc acc_0 ccc_0 (l[i]) (by first | assumption | exact hI.ok | omega)) hf42 (fun w hw => (rd_loose (i := 0) rfl (fun hφ => by obtain ⟨h1, h2, h3⟩ := hφ; intro w hw; have g1 : acc_0 = ac_0 := h1; have g2 : ccc_0 = cc_0 := h2; have g3 : cc.keys = c.keys := h3; rw [g1, g2, g3]; exact (rd_base (i := 3) rfl hc_0) w hw)) w hw) rfl (fun _ _ _ _ ha hA => SlO.agree ha hA) ?_
    rintro ⟨a6_5, c6_5⟩ S6_5
    refine o_know (fun w hw => own_len (i := 0) (T := tInt) hw rfl) (fun hlr6_5 => ?_)
    refine o_nil ?_
    refine h_next (dp (lz (lj (lj (lj (lj (ln))))))) ?_
    refine h_tk (i := 6) (ls := #[T1,T1,T1,T1,T1,T1,T1,F0,F0,F0,F0,F0,F0,F0]) rfl (p_move rfl) (dp (lz (lj (lj (lj (lj (ln))))))) ?_
    refine h_tk (i := 7) (ls := #[T1,T1,T1,T1,T1,T1,T1,T1,F0,F0,F0,F0,F0,F0]) rfl (p_extract rfl rfl) (dp (lz (lj (lj (lj (lj (ln))))))) ?_
    refine h_tk (i := 8) (ls := #[T1,T1,T1,T1,T1,T1,T1,T1,T1,F0,F0,F0,F0,F0]) rfl (p_extract rfl rfl) (dp (lz (lj (lj (lj (lj (ln))))))) ?_
    refine h_tk (i := 9) (ls := #[T1,T1,T1,T1,T1,T1,T1,T1,T1,T1,F0,F0,F0,F0]) rfl (p_extract rfl rfl) (dp (lz (lj (lj (lj (lj (ln))))))) ?_
    refine h_one (i := 10) (ls := #[T1,T1,T1,T1,T1,T1,T1,T1,T1,T1,T1,F0,F0,F0]) (by kernel_rfl) rfl rfl ?_
    refine o_alloc ze44 rfl (fun B6_10 => ?_)
    refine o_nil ?_
    refine h_next (dp (lz (lz (lj (lj (lj (lj (ln)))))))) ?_
    refine h_one (i := 11) (ls := #[T1,T1,T1,T1,T1,T1,T1,T1,T1,T1,T1,T1,F0,F0]) (by kernel_rfl) rfl rfl ?_
    refine o_storeN (i := 0) (vs := [Vi (((Lru.touch cc (l[i])).1).room), .slice a6_5 (((Lru.touch cc (l[i])).1).keys).length c6_5]) (cs' := [Vi (((Lru.touch cc (l[i])).1).room), .slice a6_5 (((Lru.touch cc (l[i])).1).keys).length c6_5]) rfl rfl rfl sz44 rfl rfl rfl rfl ?_
    refine o_nil ?_
    refine h_next (dp (lz (lz (lj (lj (lj (lj (ln)))))))) ?_
    refine h_tk (i := 12) (ls := #[T1,T1,T1,T1,T1,T1,T1,T1,T1,T1,T1,T1,T1,F0]) rfl (p_assign rfl) (dp (lz (lz (lj (lj (lj (lj (ln)))))))) ?_
    refine h_tk (i := 13) (ls := #[T1,T1,T1,T1,T1,T1,T1,T1,T1,T1,T1,T1,T1,T1]) rfl (p_assign rfl) (dp (lz (lz (lj (lj (lj (lj (ln)))))))) ?_
    refine h_done (by kernel_rfl) ?_
    refine q_kont hK7 (S6_5, a6_5, c6_5, B6_10) (sr (sr (sr (sr (sr (sr (sr (Sub.nil _)))))))) (pk [0, 1, 2, 3, 4, 5])
   ·refine o_alloc ze44 rfl (fun B6_10 => ?_)
    refine o_nil ?_
    refine h_next (dp (lz (lj (lj (lj (lj (ln))))))) ?_
    refine h_one (i := 5) (ls := #[T1,T1,T1,T1,T1,T1,F0,F0,F0,F0,T1,F0,F0,F0]) (by kernel_rfl) rfl rfl ?_
    refine o_callM rfl (lruTouch_ok cc acc_0 ccc_0 (l[i]) (by first | assumption | exact hI.ok | omega)) hf42 (fun w hw => (rd_loose (i := 1) rfl (fun hφ => by obtain ⟨h1, h2, h3⟩ := hφ; intro w hw; have g1 : acc_0 = ac_0 := h1; have g2 : ccc_0 = cc_0 := h2; have g3 : cc.keys = c.keys := h3; rw [g1, g2, g3]; exact (rd_base (i := 4) rfl hc_0) w hw)) w hw) rfl (fun _ _ _ _ ha hA => SlO.agree ha hA) ?_
    rintro ⟨a6_5, c6_5⟩ S6_5
    refine o_know (fun w hw => own_len (i := 0) (T := tInt) hw rfl) (fun hlr6_5 => ?_)
    refine o_nil ?_
    refine h_next (dp (lz (lz (lj (lj (lj (lj (ln)))))))) ?_
    refine h_tk (i := 6) (ls := #[T1,T1,T1,T1,T1,T1,T1,F0,F0,F0,T1,F0,F0,F0]) rfl (p_move rfl) (dp (lz (lz (lj (lj (lj (lj (ln)))))))) ?_
    refine h_tk (i := 7) (ls := #[T1,T1,T1,T1,T1,T1,T1,T1,F0,F0,T1,F0,F0,F0]) rfl (p_extract rfl rfl) (dp (lz (lz (lj (lj (lj (lj (ln)))))))) ?_
    refine h_tk (i := 8) (ls := #[T1,T1,T1,T1,T1,T1,T1,T1,T1,F0,T1,F0,F0,F0]) rfl (p_extract rfl rfl) (dp (lz (lz (lj (lj (lj (lj (ln)))))))) ?_
    refine h_tk (i := 9) (ls := #[T1,T1,T1,T1,T1,T1,T1,T1,T1,T1,T1,F0,F0,F0]) rfl (p_extract rfl rfl) (dp (lz (lz (lj (lj (lj (lj (ln)))))))) ?_
    refine h_one (i := 11) (ls := #[T1,T1,T1,T1,T1,T1,T1,T1,T1,T1,T1,T1,F0,F0]) (by kernel_rfl) rfl rfl ?_
    refine o_storeN (i := 1) (vs := [Vi (((Lru.touch cc (l[i])).1).room), .slice a6_5 (((Lru.touch cc (l[i])).1).keys).length c6_5]) (cs' := [Vi (((Lru.touch cc (l[i])).1).room), .slice a6_5 (((Lru.touch cc (l[i])).1).keys).length c6_5]) rfl rfl rfl sz44 rfl rfl rfl rfl ?_
    refine o_nil ?_
    refine h_next (dp (lz (lz (lj (lj (lj (lj (ln)))))))) ?_
    refine h_tk (i := 12) (ls := #[T1,T1,T1,T1,T1,T1,T1,T1,T1,T1,T1,T1,T1,F0]) rfl (p_assign rfl) (dp (lz (lz (lj (lj (lj (lj (ln)))))))) ?_
    refine h_tk (i := 13) (ls := #[T1,T1,T1,T1,T1,T1,T1,T1,T1,T1,T1,T1,T1,T1]) rfl (p_assign rfl) (dp (lz (lz (lj (lj (lj (lj (ln)))))))) ?_
    refine h_done (by kernel_rfl) ?_
    refine q_kont hK7 (S6_5, a6_5, c6_5, B6_10) (sr (sr (sr (sr (sr (sr (sr (Sub.nil _)))))))) (pk [1, 0, 2, 3, 4, 5])
  rintro ⟨S6_5, a6_5, c6_5, B6_10⟩
  show SQ _ 33 w0 _ _ [(1, .slice al l.length cl), (2, .pointer (some ⟨B1, 0, none⟩)), (4, .pointer (some ⟨B2, 0, none⟩)), (6, Vi hits), (7, Vi (i : Int)), (8, .pointer (some ⟨B6_10, 0, none⟩)), (9, .bool ((Lru.touch cc (l[i])).2.1))] [box B6_10 [Vi (((Lru.touch cc (l[i])).1).room), .slice a6_5 (((Lru.touch cc (l[i])).1).keys).length c6_5] 44, own tInt S6_5 a6_5 c6_5 (((Lru.touch cc (l[i])).1).keys), loose tInt (acc_0 = ac_0 ∧ ccc_0 = cc_0 ∧ cc.keys = c.keys) Scc_0 acc_0 ccc_0 cc.keys, box B2 [Vi 0, .slice none 0 0] 44, box B1 [Vi cc.room, .slice acc_0 cc.keys.length ccc_0] 44, base w0]
  refine q_know (fun w hw => own_len (i := 1) (T := tInt) hw rfl) (fun hlr8 => ?_)
  refine q_then (c_seq (c_seq (c_region ?_)))
  refine o_mv rfl rfl ?_
  refine o_nil (q_then ?_)
  refine c_cond rfl (fun hc9 => ?_) (fun hc9 => ?_)
  ·skip
   refine c_region ?_
   refine o_mv rfl rfl ?_
   refine o_p (p_addb rfl rfl (by omega)) ?_
   refine o_as rfl rfl ?_
   refine o_nil (q_then (c_region ?_))
   refine o_p (p_load_agg (i := 0) (vs := [Vi (((Lru.touch cc (l[i])).1).room), .slice a6_5 (((Lru.touch cc (l[i])).1).keys).length c6_5]) rfl rfl sh44 rfl rfl) ?_
   refine o_storeN (i := 4) (vs := [Vi (((Lru.touch cc (l[i])).1).room), .slice a6_5 (((Lru.touch cc (l[i])).1).keys).length c6_5]) (cs' := [Vi (((Lru.touch cc (l[i])).1).room), .slice a6_5 (((Lru.touch cc (l[i])).1).keys).length c6_5]) rfl rfl rfl sz44 rfl rfl rfl rfl ?_
   refine o_nil ?_
   refine q_block_normal (q_then ?_)
   refine c_region ?_
   refine o_mv rfl rfl ?_
   refine o_p (p_addb rfl rfl (by omega)) ?_
   refine o_as rfl rfl ?_
   refine o_nil ?_
   refine q_heap (H' := [box B6_10 [Vi (((Lru.touch cc (l[i])).1).room), .slice a6_5 (((Lru.touch cc (l[i])).1).keys).length c6_5] 44, loose tInt (a6_5 = ac_0 ∧ c6_5 = cc_0 ∧ (((Lru.touch cc (l[i])).1).keys) = c.keys) S6_5 a6_5 c6_5 (((Lru.touch cc (l[i])).1).keys), loose tInt (acc_0 = ac_0 ∧ ccc_0 = cc_0 ∧ cc.keys = c.keys) Scc_0 acc_0 ccc_0 cc.keys, box B2 [Vi 0, .slice none 0 0] 44, box B1 [Vi (((Lru.touch cc (l[i])).1).room), .slice a6_5 (((Lru.touch cc (l[i])).1).keys).length c6_5] 44, base w0]) (fun w hw => HeapIs.toLoose (i := 1) (T := tInt) rfl hw) ?_
   refine q_round hK4 ((hits + 1), i + 1, ((Lru.touch cc (l[i])).1), a6_5, c6_5, S6_5) ?_ ?_ ?_ ?_
   ·clear hK4
    first | exact hI.hit (by omega) (by assumption) | exact hI.miss (by omega) (by assumption)
   ·(try dsimp only); omega
   ·exact sr (sr (sr (sr (sr (Sub.nil _)))))
   ·exact pk [1, 3, 4, 5]
  ·skip
   refine c_skip (q_then (c_region ?_))
   refine o_p (p_load_agg (i := 0) (vs := [Vi (((Lru.touch cc (l[i])).1).room), .slice a6_5 (((Lru.touch cc (l[i])).1).keys).length c6_5]) rfl rfl sh44 rfl rfl) ?_
   refine o_storeN (i := 4) (vs := [Vi (((Lru.touch cc (l[i])).1).room), .slice a6_5 (((Lru.touch cc (l[i])).1).keys).length c6_5]) (cs' := [Vi (((Lru.touch cc (l[i])).1).room), .slice a6_5 (((Lru.touch cc (l[i])).1).keys).length c6_5]) rfl rfl rfl sz44 rfl rfl rfl rfl ?_
   refine o_nil ?_
   refine q_block_normal (q_then ?_)
   refine c_region ?_
   refine o_mv rfl rfl ?_
   refine o_p (p_addb rfl rfl (by omega)) ?_
   refine o_as rfl rfl ?_
   refine o_nil ?_
   refine q_heap (H' := [box B6_10 [Vi (((Lru.touch cc (l[i])).1).room), .slice a6_5 (((Lru.touch cc (l[i])).1).keys).length c6_5] 44, loose tInt (a6_5 = ac_0 ∧ c6_5 = cc_0 ∧ (((Lru.touch cc (l[i])).1).keys) = c.keys) S6_5 a6_5 c6_5 (((Lru.touch cc (l[i])).1).keys), loose tInt (acc_0 = ac_0 ∧ ccc_0 = cc_0 ∧ cc.keys = c.keys) Scc_0 acc_0 ccc_0 cc.keys, box B2 [Vi 0, .slice none 0 0] 44, box B1 [Vi (((Lru.touch cc (l[i])).1).room), .slice a6_5 (((Lru.touch cc (l[i])).1).keys).length c6_5] 44, base w0]) (fun w hw => HeapIs.toLoose (i := 1) (T := tInt) rfl hw) ?_
   refine q_round hK4 (hits, i + 1, ((Lru.touch cc (l[i])).1), a6_5, c6_5, S6_5) ?_ ?_ ?_ ?_
   ·clear hK4
    first | exact hI.hit (by omega) (by assumption) | exact hI.miss (by omega) (by assumption)
   ·(try dsimp only); omega
   ·exact sr (sr (sr (sr (sr (Sub.nil _)))))
   ·exact pk [1, 3, 4, 5]
 ·simp only [decide_eq_false_iff_not, Int.not_lt] at hc5
  refine c_exit ?_
  refine q_then_exit (q_then_exit (q_block_exit (q_then ?_)))
  refine c_seq (c_region ?_)
  refine o_p (p_load_agg (i := 2) (vs := [Vi cc.room, .slice acc_0 cc.keys.length ccc_0]) rfl rfl sh44 rfl rfl) ?_
  refine o_mv rfl rfl ?_
  refine o_storeN (i := 1) (vs := [Vi cc.room, .slice acc_0 cc.keys.length ccc_0]) (cs' := [Vi cc.room, .slice acc_0 cc.keys.length ccc_0]) rfl rfl rfl sz44 rfl rfl rfl rfl ?_
  refine o_as rfl rfl ?_
  refine o_nil (q_then (c_ret ?_))
  have hd := hI.done (by omega)
  have hr0 : (cc.room : Int) = ((Lru.runGo c 0 l).1).room := by
   simp only [hd]
  have hr1 : (cc.keys : List Int) = ((Lru.runGo c 0 l).1).keys := by
   simp only [hd]
  have hr2 : (hits : Int) = ((Lru.runGo c 0 l).2) := by
   simp only [hd]
  refine q_endM (p := (acc_0, ccc_0)) Scc_0 (rt2 rfl (r_cell (i := 1) rfl rfl sh44 rfl) (r_tmp rfl)) (i := 3) rfl ?_ ?_ ?_
  ·exact (by have hcc := congr (congr (congrArg (fun (y0 : Int) (y1 : List Int) (y2 : Int) => (.tuple #[.agg #[.int .i64 y0, .slice acc_0 y1.length ccc_0], .int .i64 y2] : Value)) hr0) hr1) hr2; exact hcc)
  ·exact fun w hw => hw.above (i := 3) (j := 0) (by decide) rfl rfl
  ·intro w hw; exact Eq.mp (congrArg (fun y => SlR tInt _ w acc_0 ccc_0 y ∨ (acc_0 = ac_0 ∧ ccc_0 = cc_0 ∧ y = c.keys)) hr1) (Or.imp (fun h => SlR.mono (fun b hb => by simp [hb]) h) id (hw.at (i := 0) rfl).here)

set_option maxHeartbeats 8000000 in
set_option maxRecDepth 100000 in
theorem framesCopy_ok (l : List DFrame) (al : Option Addr) (cl : Nat) (hy1 : l.length ≤ 1000000) : FnM Tryz.prog 68 [.slice al l.length cl] (fun w => Rd tFrame w al cl l) (Option Addr × Nat) (fun p => .slice p.1 l.length p.2) (fun p S w => SlO tFrame S w p.1 p.2 l) := by
 refine fnM (nt := 6) (F0 := [(0, .slice al l.length cl)]) Tryz.func68 rfl Tryz.ntmps68 rfl rfl (fun w0 hpre => ?_)
 have hl := hpre
 have hlhl := hl.2.1
 refine c_seq (c_region ?_)
 refine o_as rfl rfl ?_
 refine o_nil (q_then (c_seq (c_region ?_)))
 refine o_buildSlice (m := 0) (T := tFrame) (L := []) (vs := []) rfl rfl rfl rfl Tryz.underlying47 sz116 (by decide) ze116 rfl (by decide) rfl (fun S1 a2 => ?_)
 refine o_mv rfl rfl ?_
 refine o_append (i := 0) (L := []) (M := l) (T := tFrame) rfl rfl rfl (rd_base (i := 1) rfl hl) Tryz.underlying47 Tryz.underlying47 (by intro k h; cases h) el116 (by intro z; simp [tFrame, one1]) (by decide) (by simp only [List.length_nil]; omega) rfl (fun a4 c5 S6 => ?_)
 refine o_as rfl rfl ?_
 refine o_nil (q_then (c_ret ?_))
 have hr0 : (([] ++ l) : List DFrame) = l := by
  simp
 refine q_endM (p := (a4, c5)) S6 (rt1 rfl (r_tmp rfl)) (i := 1) rfl ?_ ?_ ?_
 ·exact (by have hcc := congrArg (fun (y0 : List DFrame) => (.slice a4 y0.length c5 : Value)) hr0; exact hcc)
 ·exact fun w hw => hw.above (i := 1) (j := 0) (by decide) rfl rfl
 ·intro w hw; exact Eq.mp (congrArg (fun y => SlO tFrame _ w a4 c5 y) hr0) ((hw.at (i := 0) rfl).here)

set_option maxHeartbeats 8000000 in
set_option maxRecDepth 100000 in
theorem clockTouch_ok (c : DClock) (ac_0 : Option Addr) (cc_0 : Nat) (key : Int) (hy1 : Clock.Ok c) : FnM Tryz.prog 43 [.agg #[Vi c.room, Vi c.hand, .slice ac_0 c.frames.length cc_0], Vi key] (fun w => Rd tFrame w ac_0 cc_0 c.frames) (Option Addr × Nat) (fun p => .tuple #[.agg #[Vi (((Clock.touch c key).1).room), Vi (((Clock.touch c key).1).hand), .slice p.1 (((Clock.touch c key).1).frames).length p.2], .bool ((Clock.touch c key).2.1), Vi ((Clock.touch c key).2.2)]) (fun p S w => SlO tFrame S w p.1 p.2 (((Clock.touch c key).1).frames)) := by
 refine fnM (nt := 105) (F0 := [(0, .agg #[Vi c.room, Vi c.hand, .slice ac_0 c.frames.length cc_0]), (1, Vi key)]) Tryz.func43 rfl Tryz.ntmps43 rfl rfl (fun w0 hpre => ?_)
 have hc_0 := hpre
 have hlhc_0 := hc_0.2.1
 have hroom := hy1.room
 have hlen := hy1.len
 have hh0 := hy1.hand0
 have hh1 := hy1.hand1
 refine c_seq (c_region ?_)
 refine o_box (v := .agg #[Vi c.room, Vi c.hand, .slice ac_0 c.frames.length cc_0]) rfl rfl (fun B1 => ?_)
 refine o_alloc ze49 rfl (fun B2 => ?_)
 refine o_as rfl rfl ?_
 refine o_as rfl rfl ?_
 refine o_nil (q_then (c_seq (c_region ?_)))
 refine o_p (p_fieldAddr (j' := 2) rfl fo49_2 rfl) ?_
 refine o_p (p_load (i := 1) (v := .slice ac_0 c.frames.length cc_0) rfl rfl sh47 rfl) ?_
 refine o_callM rfl (framesCopy_ok c.frames ac_0 cc_0 (by first | assumption | omega)) hf68 (fun w hw => (rd_base (i := 2) rfl hc_0) w hw) rfl (fun _ _ _ _ ha hA => SlO.agree ha hA) ?_
 rintro ⟨a5, c6⟩ S3
 refine o_know (fun w hw => own_len (i := 0) (T := tFrame) hw rfl) (fun hlr7 => ?_)
 refine o_as rfl rfl ?_
 refine o_nil (q_then (c_seq (c_region ?_)))
 refine o_mv rfl rfl ?_
 refine o_p (p_len_slice rfl rfl Tryz.underlying47) ?_
 refine o_as rfl rfl ?_
 refine o_nil (q_then (c_seq (c_seq (c_region ?_))))
 refine o_as rfl rfl ?_
 refine o_nil (q_then (c_block ?_))
 refine c_loop (St := Nat)
  (fun i => [(1, Vi key), (2, .pointer (some ⟨B1, 0, none⟩)), (4, .pointer (some ⟨B2, 0, none⟩)), (7, .slice a5 c.frames.length c6), (8, Vi (c.frames.length : Int)), (9, Vi (i : Int))])
  (fun i => [own tFrame S3 a5 c6 c.frames, box B2 [Vi 0, Vi 0, .slice none 0 0] 49, box B1 [Vi c.room, Vi c.hand, .slice ac_0 c.frames.length cc_0] 49, base w0])
  (fun i => i ≤ c.frames.length ∧ ∀ j (h : j < c.frames.length), j < i → c.frames[j].key ≠ key)
  (fun i => c.frames.length - i)
  0 ?_ (sr (sr (sr (sr (sr (sr (Sub.nil _))))))) (fun _ hw => hw) ?_
 ·exact ⟨Nat.zero_le _, fun j _ h => absurd h (by omega)⟩
 rintro i hI K hK8
 obtain ⟨hI1, hI2⟩ := hI
 show SC _ _ Tryz.prog 105 w0 _ _ [(1, Vi key), (2, .pointer (some ⟨B1, 0, none⟩)), (4, .pointer (some ⟨B2, 0, none⟩)), (7, .slice a5 c.frames.length c6), (8, Vi (c.frames.length : Int)), (9, Vi (i : Int))] [own tFrame S3 a5 c6 c.frames, box B2 [Vi 0, Vi 0, .slice none 0 0] 49, box B1 [Vi c.room, Vi c.hand, .slice ac_0 c.frames.length cc_0] 49, base w0]
 refine c_seq (c_seq (c_region ?_))
 refine o_mv rfl rfl ?_
 refine o_mv rfl rfl ?_
 refine o_p (p_lt rfl rfl) ?_
 refine o_nil (q_then ?_)
 refine c_cond rfl (fun hc9 => ?_) (fun hc9 => ?_)
 ·simp only [decide_eq_true_eq] at hc9
  refine c_skip (q_then (c_seq (c_block (c_seq (c_region ?_)))))
  refine o_mv rfl rfl ?_
  refine o_mv rfl rfl ?_
  refine o_p (p_indexAddr (L := c.frames) (T := tFrame) (i := (i : Int)) rfl rfl (rd_own (i := 0) rfl) Tryz.underlying47 sz116 (by omega) (by omega)) ?_
  refine o_p (p_fieldAddrE rfl fo116_0) ?_
  refine o_p (p_loadF (i := i) (j := 0) (T := tFrame) (L := c.frames) (v := Vi ((c.frames[i]).key)) rfl (rd_own (i := 0) rfl) (by first | assumption | omega) sh3 rfl) ?_
  refine o_mv rfl rfl ?_
  refine o_p (p_eq rfl rfl) ?_
  refine o_nil (q_then ?_)
  refine c_cond rfl (fun hc10 => ?_) (fun hc10 => ?_)
  ·simp only [beq_iff_eq] at hc10
   refine c_seq (c_region ?_)
   refine o_mv rfl rfl ?_
   refine o_mv rfl rfl ?_
   refine o_p (p_indexAddr (L := c.frames) (T := tFrame) (i := (i : Int)) rfl rfl (rd_own (i := 0) rfl) Tryz.underlying47 sz116 (by omega) (by omega)) ?_
   refine o_p (p_fieldAddrE rfl fo116_1) ?_
   refine o_storeF (j := 1) (i := 0) (T := tFrame) (idx := i) (v := .bool true) (vs := [.bool true]) (z := (⟨(c.frames[i]).key, true⟩ : DFrame)) (F' := [(2, .pointer (some ⟨B1, 0, none⟩)), (4, .pointer (some ⟨B2, 0, none⟩)), (7, .slice a5 (c.frames.set i (⟨(c.frames[i]).key, true⟩ : DFrame)).length c6)]) rfl rfl rfl rfl (by first | assumption | omega | (simp only [List.length_set]; omega)) sz4 rfl rfl rfl rfl (sr (sr (Sub.cons (by first | (simp only [List.length_set]; rfl) | (show some _ = some _; congr 2; rw [List.length_set]) | (rw [List.length_set]; rfl)) (Sub.nil _)))) ?_
   refine o_nil (q_then (c_seq (c_region ?_)))
   refine o_p (p_fieldAddr (j' := 0) rfl fo49_0 rfl) ?_
   refine o_p (p_load (i := 2) (v := Vi c.room) rfl rfl sh3 rfl) ?_
   refine o_p (p_fieldAddr (j' := 1) rfl fo49_1 rfl) ?_
   refine o_p (p_load (i := 2) (v := Vi c.hand) rfl rfl sh3 rfl) ?_
   refine o_mv rfl rfl ?_
   refine o_p (p_build (cells := [Vi c.room, Vi c.hand, .slice a5 (c.frames.set i (⟨(c.frames[i]).key, true⟩ : DFrame)).length c6]) fp49 ze49 rfl rfl) ?_
   refine o_storeN (i := 1) (vs := [Vi c.room, Vi c.hand, .slice a5 (c.frames.set i (⟨(c.frames[i]).key, true⟩ : DFrame)).length c6]) (cs' := [Vi c.room, Vi c.hand, .slice a5 (c.frames.set i (⟨(c.frames[i]).key, true⟩ : DFrame)).length c6]) rfl rfl rfl sz49 rfl rfl rfl rfl ?_
   refine o_as rfl rfl ?_
   refine o_as rfl rfl ?_
   refine o_nil (q_then (c_ret ?_))
   refine q_block_ret (q_then_ret (q_then_ret (q_block_ret (q_then_ret ?_))))
   first
    | have ht := Clock.touch_hit2 (c := c) (key := key) (by omega) (by assumption) hI2
    | have ht := Clock.touch_room (c := c) (key := key) hid (by omega)
    | have ht := Clock.touch_ref (key := key) hy1 hI hid (by omega) (by omega) (by assumption)
   have hr0 : (c.room : Int) = ((Clock.touch c key).1).room := by
    simp only [ht, List.length_set]
   have hr1 : (c.hand : Int) = ((Clock.touch c key).1).hand := by
    simp only [ht, List.length_set]
   have hr2 : ((c.frames.set i (⟨(c.frames[i]).key, true⟩ : DFrame)) : List DFrame) = ((Clock.touch c key).1).frames := by
    simp only [ht, List.length_set]
   have hr3 : (true : Bool) = ((Clock.touch c key).2.1) := by
    simp only [ht, List.length_set]
   have hr4 : ((-1) : Int) = ((Clock.touch c key).2.2) := by
    simp only [ht, List.length_set]
   refine q_endM (p := (a5, c6)) S3 (rt3 rfl (r_cell (i := 1) rfl rfl sh49 rfl) (r_tmp rfl) (r_tmp rfl)) (i := 3) rfl ?_ ?_ ?_
   ·exact (by have hcc := congr (congr (congr (congr (congrArg (fun (y0 : Int) (y1 : Int) (y2 : List DFrame) (y3 : Bool) (y4 : Int) => (.tuple #[.agg #[.int .i64 y0, .int .i64 y1, .slice a5 y2.length c6], .bool y3, .int .i64 y4] : Value)) hr0) hr1) hr2) hr3) hr4; exact hcc)
   ·exact fun w hw => hw.above (i := 3) (j := 0) (by decide) rfl rfl
   ·intro w hw; exact Eq.mp (congrArg (fun y => SlO tFrame _ w a5 c6 y) hr2) ((hw.at (i := 0) rfl).here)
  ·simp only [beq_eq_false_iff_ne, ne_eq] at hc10
   refine c_skip ?_
   refine q_block_normal (q_then ?_)
   refine c_region ?_
   refine o_mv rfl rfl ?_
   refine o_p (p_addb rfl rfl (by omega)) ?_
   refine o_as rfl rfl ?_
   refine o_nil ?_
   refine q_round hK8 (i + 1) ?_ ?_ ?_ ?_
   ·clear hK8
    refine ⟨by omega, fun j h h2 => ?_⟩
    by_cases e : j = i
    ·subst e; assumption
    ·exact hI2 j h (by omega)
   ·(try dsimp only); omega
   ·exact sr (sr (sr (sr (sr (sr (Sub.nil _))))))
   ·exact pk [0, 1, 2, 3]
 ·simp only [decide_eq_false_iff_not, Int.not_lt] at hc9
  have hid := Clock.at_neg (c := c) (key := key) (fun j h => hI2 j h (by omega))
  refine c_exit ?_
  refine q_then_exit (q_then_exit (q_block_exit (q_then ?_)))
  refine c_seq (c_seq (c_region ?_))
  refine o_mv rfl rfl ?_
  refine o_p (p_fieldAddr (j' := 0) rfl fo49_0 rfl) ?_
  refine o_p (p_load (i := 2) (v := Vi c.room) rfl rfl sh3 rfl) ?_
  refine o_p (p_lt rfl rfl) ?_
  refine o_nil (q_then ?_)
  refine c_cond rfl (fun hc11 => ?_) (fun hc11 => ?_)
  ·simp only [decide_eq_true_eq] at hc11
   refine c_seq ?_
   refine c_held hmix [box B1 [Vi c.room, Vi c.hand, .slice ac_0 c.frames.length cc_0] 49, base w0] rfl rfl ?_
   refine h_tk (i := 0) (ls := #[T1,F0,F0,F0,F0,F0,F0,F0,F0,F0,F0,F0,F0]) rfl (p_fieldAddr (j' := 0) rfl fo49_0 rfl) (dp (lz (lz (lj (lj (ln)))))) ?_
   refine h_tk (i := 1) (ls := #[T1,T1,F0,F0,F0,F0,F0,F0,F0,F0,F0,F0,F0]) rfl (p_load (i := 0) (v := Vi c.room) rfl rfl sh3 rfl) (dp (lz (lz (lj (lj (ln)))))) ?_
   refine h_tk (i := 2) (ls := #[T1,T1,T1,F0,F0,F0,F0,F0,F0,F0,F0,F0,F0]) rfl (p_fieldAddr (j' := 1) rfl fo49_1 rfl) (dp (lz (lz (lj (lj (ln)))))) ?_
   refine h_tk (i := 3) (ls := #[T1,T1,T1,T1,F0,F0,F0,F0,F0,F0,F0,F0,F0]) rfl (p_load (i := 0) (v := Vi c.hand) rfl rfl sh3 rfl) (dp (lz (lz (lj (lj (ln)))))) ?_
   refine h_tk (i := 4) (ls := #[T1,T1,T1,T1,T1,F0,F0,F0,F0,F0,F0,F0,F0]) rfl (p_move rfl) (dp (lz (lz (lj (lj (ln)))))) ?_
   refine h_tk (i := 5) (ls := #[T1,T1,T1,T1,T1,T1,F0,F0,F0,F0,F0,F0,F0]) rfl (p_move rfl) (dp (lz (lz (lj (lj (ln)))))) ?_
   refine h_tk (i := 6) (ls := #[T1,T1,T1,T1,T1,T1,T1,F0,F0,F0,F0,F0,F0]) rfl (p_build (cells := [Vi key, .bool false]) fp116 ze116 rfl rfl) (dp (lz (lz (lj (lj (ln)))))) ?_
   refine h_one (i := 7) (ls := #[T1,T1,T1,T1,T1,T1,T1,T1,F0,F0,F0,F0,F0]) (by kernel_rfl) rfl rfl ?_
   refine o_buildSlice (m := 1) (T := tFrame) (L := [(⟨key, false⟩ : DFrame)]) (vs := [.agg #[Vi key, .bool false]]) rfl rfl rfl rfl Tryz.underlying47 sz116 (by decide) ze116 rfl (by decide) rfl (fun S12_7 a12_7 => ?_)
   refine o_nil ?_
   refine h_next (dp (lz (lz (lz (lj (lj (ln))))))) ?_
   refine h_one (i := 8) (ls := #[T1,T1,T1,T1,T1,T1,T1,T1,T1,F0,F0,F0,F0]) (by kernel_rfl) rfl rfl ?_
   refine o_append (i := 1) (L := c.frames) (M := [(⟨key, false⟩ : DFrame)]) (T := tFrame) rfl rfl rfl (rd_own (i := 0) rfl) Tryz.underlying47 Tryz.underlying47 (by intro k h; cases h) el116 (by intro z; simp [tFrame, one1]) (by decide) (by first | omega | (simp only [List.length_cons, List.length_nil]; omega) | (simp only [List.length_append, List.length_cons, List.length_nil, List.length_take, List.length_drop]; omega)) rfl (fun a12_8 c12_8 S12_8 => ?_)
   refine o_nil ?_
   refine h_next (dp (lz (lz (lz (lj (lj (ln))))))) ?_
   refine h_tk (i := 9) (ls := #[T1,T1,T1,T1,T1,T1,T1,T1,T1,T1,F0,F0,F0]) rfl (p_build (cells := [Vi c.room, Vi c.hand, .slice a12_8 (c.frames ++ [(⟨key, false⟩ : DFrame)]).length c12_8]) fp49 ze49 rfl rfl) (dp (lz (lz (lz (lj (lj (ln))))))) ?_
   refine h_one (i := 10) (ls := #[T1,T1,T1,T1,T1,T1,T1,T1,T1,T1,T1,F0,F0]) (by kernel_rfl) rfl rfl ?_
   refine o_storeN (i := 2) (vs := [Vi c.room, Vi c.hand, .slice a12_8 (c.frames ++ [(⟨key, false⟩ : DFrame)]).length c12_8]) (cs' := [Vi c.room, Vi c.hand, .slice a12_8 (c.frames ++ [(⟨key, false⟩ : DFrame)]).length c12_8]) rfl rfl rfl sz49 rfl rfl rfl rfl ?_
   refine o_nil ?_
   refine h_next (dp (lz (lz (lz (lj (lj (ln))))))) ?_
   refine h_tk (i := 11) (ls := #[T1,T1,T1,T1,T1,T1,T1,T1,T1,T1,T1,T1,F0]) rfl (p_assign rfl) (dp (lz (lz (lz (lj (lj (ln))))))) ?_
   refine h_tk (i := 12) (ls := #[T1,T1,T1,T1,T1,T1,T1,T1,T1,T1,T1,T1,T1]) rfl (p_assign rfl) (dp (lz (lz (lz (lj (lj (ln))))))) ?_
   refine h_done (by kernel_rfl) ?_
   refine q_cast (F' := [(4, .pointer (some ⟨B2, 0, none⟩)), (5, .bool false), (6, Vi (-1))]) (H := [own tFrame S12_7 a12_7 ([(⟨key, false⟩ : DFrame)].length) ([(⟨key, false⟩ : DFrame)]), own tFrame S12_8 a12_8 c12_8 (c.frames ++ [(⟨key, false⟩ : DFrame)]), box B2 [Vi c.room, Vi c.hand, .slice a12_8 (c.frames ++ [(⟨key, false⟩ : DFrame)]).length c12_8] 49, box B1 [Vi c.room, Vi c.hand, .slice ac_0 c.frames.length cc_0] 49, base w0]) (H' := [own tFrame S12_7 a12_7 ([(⟨key, false⟩ : DFrame)].length) ([(⟨key, false⟩ : DFrame)]), own tFrame S12_8 a12_8 c12_8 (c.frames ++ [(⟨key, false⟩ : DFrame)]), box B2 [Vi c.room, Vi c.hand, .slice a12_8 (c.frames ++ [(⟨key, false⟩ : DFrame)]).length c12_8] 49, box B1 [Vi c.room, Vi c.hand, .slice ac_0 c.frames.length cc_0] 49, base w0]) (sr (sr (sr (Sub.nil _)))) (by rfl) ?_
   refine q_then (c_ret ?_)
   refine q_then_ret ?_
   first
    | have ht := Clock.touch_hit2 (c := c) (key := key) (by omega) (by assumption) hI2
    | have ht := Clock.touch_room (c := c) (key := key) hid (by omega)
    | have ht := Clock.touch_ref (key := key) hy1 hI hid (by omega) (by omega) (by assumption)
   have hr0 : (c.room : Int) = ((Clock.touch c key).1).room := by
    simp only [ht, List.length_set]
   have hr1 : (c.hand : Int) = ((Clock.touch c key).1).hand := by
    simp only [ht, List.length_set]
   have hr2 : ((c.frames ++ [(⟨key, false⟩ : DFrame)]) : List DFrame) = ((Clock.touch c key).1).frames := by
    simp only [ht, List.length_set]
   have hr3 : (false : Bool) = ((Clock.touch c key).2.1) := by
    simp only [ht, List.length_set]
   have hr4 : ((-1) : Int) = ((Clock.touch c key).2.2) := by
    simp only [ht, List.length_set]
   refine q_endM (p := (a12_8, c12_8)) S12_8 (rt3 rfl (r_cell (i := 2) rfl rfl sh49 rfl) (r_tmp rfl) (r_tmp rfl)) (i := 4) rfl ?_ ?_ ?_
   ·exact (by have hcc := congr (congr (congr (congr (congrArg (fun (y0 : Int) (y1 : Int) (y2 : List DFrame) (y3 : Bool) (y4 : Int) => (.tuple #[.agg #[.int .i64 y0, .int .i64 y1, .slice a12_8 y2.length c12_8], .bool y3, .int .i64 y4] : Value)) hr0) hr1) hr2) hr3) hr4; exact hcc)
   ·exact fun w hw => hw.above (i := 4) (j := 1) (by decide) rfl rfl
   ·intro w hw; exact Eq.mp (congrArg (fun y => SlO tFrame _ w a12_8 c12_8 y) hr2) ((hw.at (i := 1) rfl).here)
  ·simp only [decide_eq_false_iff_not, Int.not_lt] at hc11
   refine c_skip (q_then (c_seq (c_region ?_)))
   refine o_as rfl rfl ?_
   refine o_nil (q_then (c_seq (c_block ?_)))
   refine c_loop (St := Nat × List DFrame)
    (fun ⟨passed, lc⟩ => [(1, Vi key), (2, .pointer (some ⟨B1, 0, none⟩)), (4, .pointer (some ⟨B2, 0, none⟩)), (7, .slice a5 lc.length c6), (8, Vi (c.frames.length : Int)), (10, Vi (passed : Int))])
    (fun ⟨passed, lc⟩ => [own tFrame S3 a5 c6 lc, box B2 [Vi 0, Vi 0, .slice none 0 0] 49, box B1 [Vi c.room, Vi c.hand, .slice ac_0 c.frames.length cc_0] 49, base w0])
    (fun ⟨passed, lc⟩ => Clock.PInv c lc passed)
    (fun ⟨passed, lc⟩ => c.frames.length - passed)
    (0, c.frames) ?_ (sr (sr (sr (sr (sr (sr (Sub.nil _))))))) (fun _ hw => hw) ?_
   ·exact Clock.PInv.start hy1 (by omega)
   rintro ⟨passed, lc⟩ hI K hK13
   have hle := hI.le
   have hln := hI.len
   have htb := Clock.tm_bounds (a := c.hand + (passed : Int)) (n := (c.frames.length : Int)) (by omega) (by omega)
   show SC _ _ Tryz.prog 105 w0 _ _ [(1, Vi key), (2, .pointer (some ⟨B1, 0, none⟩)), (4, .pointer (some ⟨B2, 0, none⟩)), (7, .slice a5 lc.length c6), (8, Vi (c.frames.length : Int)), (10, Vi (passed : Int))] [own tFrame S3 a5 c6 lc, box B2 [Vi 0, Vi 0, .slice none 0 0] 49, box B1 [Vi c.room, Vi c.hand, .slice ac_0 c.frames.length cc_0] 49, base w0]
   refine c_seq (c_seq (c_region ?_))
   refine o_mv rfl rfl ?_
   refine o_mv rfl rfl ?_
   refine o_p (p_lt rfl rfl) ?_
   refine o_mv rfl rfl ?_
   refine o_and (p := 68) 11 ((lc[((c.hand + (passed : Int)).tmod (c.frames.length : Int)).toNat]).used) ?_ ?_ ?_
   ·intro hb14 hk
    simp only [decide_eq_true_eq] at hb14
    refine o_unguard 57 rfl rfl ?_
    refine o_mv rfl rfl ?_
    refine o_unguard 57 rfl rfl ?_
    refine o_p (p_fieldAddr (j' := 1) rfl fo49_1 rfl) ?_
    refine o_unguard 57 rfl rfl ?_
    refine o_p (p_load (i := 2) (v := Vi c.hand) rfl rfl sh3 rfl) ?_
    refine o_unguard 57 rfl rfl ?_
    refine o_mv rfl rfl ?_
    refine o_unguard 57 rfl rfl ?_
    refine o_p (p_addb rfl rfl (by omega)) ?_
    refine o_unguard 57 rfl rfl ?_
    refine o_mv rfl rfl ?_
    refine o_unguard 57 rfl rfl ?_
    refine o_p (p_rem (p := (c.hand + (passed : Int))) (q := (c.frames.length : Int)) rfl rfl (by omega)) ?_
    refine o_unguard 57 rfl rfl ?_
    refine o_p (p_indexAddr (L := lc) (T := tFrame) (i := ((c.hand + (passed : Int)).tmod (c.frames.length : Int))) rfl rfl (rd_own (i := 0) rfl) Tryz.underlying47 sz116 (by omega) (by omega)) ?_
    refine o_unguard 57 rfl rfl ?_
    refine o_p (p_fieldAddrE rfl fo116_1) ?_
    refine o_unguard 57 rfl rfl ?_
    refine o_p (p_loadF (i := ((c.hand + (passed : Int)).tmod (c.frames.length : Int)).toNat) (j := 1) (T := tFrame) (L := lc) (v := .bool ((lc[((c.hand + (passed : Int)).tmod (c.frames.length : Int)).toNat]).used)) rfl (rd_own (i := 0) rfl) (by first | assumption | omega) sh4 rfl) ?_
    refine o_pt rfl rfl rfl ?_
    exact o_sub (sr (Sub.skip rfl (Sub.skip rfl (Sub.skip rfl (Sub.skip rfl (Sub.skip rfl (Sub.skip rfl (Sub.skip rfl (Sub.skip rfl (Sub.skip rfl (Sub.skip rfl (Sub.skip rfl (Sub.skip rfl (Sub.refl _)))))))))))))) hk
   ·intro hb14 hk
    refine o_guard_no rfl 57 rfl rfl rfl rfl rfl ?_
    refine o_guard_no rfl 57 rfl rfl rfl rfl rfl ?_
    refine o_guard_no rfl 57 rfl rfl rfl rfl rfl ?_
    refine o_guard_no rfl 57 rfl rfl rfl rfl rfl ?_
    refine o_guard_no rfl 57 rfl rfl rfl rfl rfl ?_
    refine o_guard_no rfl 57 rfl rfl rfl rfl rfl ?_
    refine o_guard_no rfl 57 rfl rfl rfl rfl rfl ?_
    refine o_guard_no rfl 57 rfl rfl rfl rfl rfl ?_
    refine o_guard_no rfl 57 rfl rfl rfl rfl rfl ?_
    refine o_guard_no rfl 57 rfl rfl rfl rfl rfl ?_
    refine o_pf rfl rfl rfl ?_
    exact o_sub (sr (Sub.skip rfl (Sub.skip rfl (Sub.skip rfl (Sub.skip rfl (Sub.skip rfl (Sub.skip rfl (Sub.skip rfl (Sub.skip rfl (Sub.skip rfl (Sub.skip rfl (Sub.skip rfl (Sub.skip rfl (Sub.refl _)))))))))))))) hk
   refine o_nil (q_then ?_)
   refine c_cond rfl (fun hc15 => ?_) (fun hc15 => ?_)
   ·simp only [Bool.and_eq_true, decide_eq_true_eq] at hc15
    refine c_skip (q_then (c_block (c_seq (c_region ?_))))
    refine o_mv rfl rfl ?_
    refine o_p (p_fieldAddr (j' := 1) rfl fo49_1 rfl) ?_
    refine o_p (p_load (i := 2) (v := Vi c.hand) rfl rfl sh3 rfl) ?_
    refine o_mv rfl rfl ?_
    refine o_p (p_addb rfl rfl (by omega)) ?_
    refine o_mv rfl rfl ?_
    refine o_p (p_rem (p := (c.hand + (passed : Int))) (q := (c.frames.length : Int)) rfl rfl (by omega)) ?_
    refine o_p (p_indexAddr (L := lc) (T := tFrame) (i := ((c.hand + (passed : Int)).tmod (c.frames.length : Int))) rfl rfl (rd_own (i := 0) rfl) Tryz.underlying47 sz116 (by omega) (by omega)) ?_
    refine o_p (p_fieldAddrE rfl fo116_1) ?_
    refine o_storeF (j := 1) (i := 0) (T := tFrame) (idx := ((c.hand + (passed : Int)).tmod (c.frames.length : Int)).toNat) (v := .bool false) (vs := [.bool false]) (z := (⟨(lc[((c.hand + (passed : Int)).tmod (c.frames.length : Int)).toNat]).key, false⟩ : DFrame)) (F' := [(1, Vi key), (2, .pointer (some ⟨B1, 0, none⟩)), (4, .pointer (some ⟨B2, 0, none⟩)), (7, .slice a5 (lc.set (((c.hand + (passed : Int)).tmod (c.frames.length : Int)).toNat) (⟨(lc[((c.hand + (passed : Int)).tmod (c.frames.length : Int)).toNat]).key, false⟩ : DFrame)).length c6), (8, Vi (c.frames.length : Int)), (10, Vi (passed : Int))]) rfl rfl rfl rfl (by first | assumption | omega | (simp only [List.length_set]; omega)) sz4 rfl rfl rfl rfl (sr (sr (sr (Sub.cons (by first | (simp only [List.length_set]; rfl) | (show some _ = some _; congr 2; rw [List.length_set]) | (rw [List.length_set]; rfl)) (sr (sr (Sub.nil _))))))) ?_
    refine o_nil (q_then (c_region ?_))
    refine o_mv rfl rfl ?_
    refine o_p (p_addb rfl rfl (by omega)) ?_
    refine o_as rfl rfl ?_
    refine o_nil ?_
    refine q_block_normal ?_
    refine q_round hK13 (passed + 1, (lc.set (((c.hand + (passed : Int)).tmod (c.frames.length : Int)).toNat) (⟨(lc[((c.hand + (passed : Int)).tmod (c.frames.length : Int)).toNat]).key, false⟩ : DFrame))) ?_ ?_ ?_ ?_
    ·clear hK13
     exact hI.next hy1 (by omega) (by omega) (by simp_all)
    ·(try dsimp only); omega
    ·exact sr (sr (sr (sr (sr (sr (Sub.nil _))))))
    ·exact pk [0, 1, 2, 3]
   ·simp only [Bool.and_eq_false_iff, decide_eq_false_iff_not, Int.not_lt] at hc15
    refine c_exit ?_
    refine q_then_exit (q_then_exit (q_block_exit (q_then ?_)))
    refine c_seq (c_region ?_)
    refine o_p (p_fieldAddr (j' := 1) rfl fo49_1 rfl) ?_
    refine o_p (p_load (i := 2) (v := Vi c.hand) rfl rfl sh3 rfl) ?_
    refine o_mv rfl rfl ?_
    refine o_p (p_addb rfl rfl (by omega)) ?_
    refine o_mv rfl rfl ?_
    refine o_p (p_rem (p := (c.hand + (passed : Int))) (q := (c.frames.length : Int)) rfl rfl (by omega)) ?_
    refine o_as rfl rfl ?_
    refine o_nil (q_then (c_seq (c_region ?_)))
    refine o_mv rfl rfl ?_
    refine o_mv rfl rfl ?_
    refine o_p (p_indexAddr (L := lc) (T := tFrame) (i := ((c.hand + (passed : Int)).tmod (c.frames.length : Int))) rfl rfl (rd_own (i := 0) rfl) Tryz.underlying47 sz116 (by omega) (by omega)) ?_
    refine o_p (p_fieldAddrE rfl fo116_0) ?_
    refine o_p (p_loadF (i := ((c.hand + (passed : Int)).tmod (c.frames.length : Int)).toNat) (j := 0) (T := tFrame) (L := lc) (v := Vi ((lc[((c.hand + (passed : Int)).tmod (c.frames.length : Int)).toNat]).key)) rfl (rd_own (i := 0) rfl) (by first | assumption | omega) sh3 rfl) ?_
    refine o_as rfl rfl ?_
    refine o_nil (q_then (c_seq (c_region ?_)))
    refine o_mv rfl rfl ?_
    refine o_mv rfl rfl ?_
    refine o_mv rfl rfl ?_
    refine o_p (p_build (cells := [Vi key, .bool false]) fp116 ze116 rfl rfl) ?_
    refine o_p (p_indexAddr (L := lc) (T := tFrame) (i := ((c.hand + (passed : Int)).tmod (c.frames.length : Int))) rfl rfl (rd_own (i := 0) rfl) Tryz.underlying47 sz116 (by omega) (by omega)) ?_
    refine o_storeW (i := 0) (T := tFrame) (idx := ((c.hand + (passed : Int)).tmod (c.frames.length : Int)).toNat) (v := .agg #[Vi key, .bool false]) (vs := [Vi key, .bool false]) (z := (⟨key, false⟩ : DFrame)) (F' := [(2, .pointer (some ⟨B1, 0, none⟩)), (4, .pointer (some ⟨B2, 0, none⟩)), (7, .slice a5 (lc.set (((c.hand + (passed : Int)).tmod (c.frames.length : Int)).toNat) (⟨key, false⟩ : DFrame)).length c6), (8, Vi (c.frames.length : Int)), (11, Vi ((c.hand + (passed : Int)).tmod (c.frames.length : Int))), (12, Vi ((lc[((c.hand + (passed : Int)).tmod (c.frames.length : Int)).toNat]).key))]) rfl rfl rfl rfl (by first | assumption | omega | (simp only [List.length_set]; omega)) sz116 rfl rfl rfl rfl (sr (sr (Sub.cons (by first | (simp only [List.length_set]; rfl) | (show some _ = some _; congr 2; rw [List.length_set]) | (rw [List.length_set]; rfl)) (sr (sr (sr (Sub.nil _))))))) ?_
    refine o_nil (q_then (c_seq ?_))
    refine c_held hmix [own tFrame S3 a5 c6 (lc.set (((c.hand + (passed : Int)).tmod (c.frames.length : Int)).toNat) (⟨key, false⟩ : DFrame)), box B1 [Vi c.room, Vi c.hand, .slice ac_0 c.frames.length cc_0] 49, base w0] rfl rfl ?_
    refine h_tk (i := 0) (ls := #[T1,F0,F0,F0,F0,F0,F0,F0,F0,F0,F0,F0]) rfl (p_fieldAddr (j' := 0) rfl fo49_0 rfl) (dp (lj (lz (lj (lj (ln)))))) ?_
    refine h_tk (i := 1) (ls := #[T1,T1,F0,F0,F0,F0,F0,F0,F0,F0,F0,F0]) rfl (p_load (i := 1) (v := Vi c.room) rfl rfl sh3 rfl) (dp (lj (lz (lj (lj (ln)))))) ?_
    refine h_tk (i := 2) (ls := #[T1,T1,T1,F0,F0,F0,F0,F0,F0,F0,F0,F0]) rfl (p_move rfl) (dp (lj (lz (lj (lj (ln)))))) ?_
    refine h_tk (i := 3) (ls := #[T1,T1,T1,T1,F0,F0,F0,F0,F0,F0,F0,F0]) rfl (p_addb rfl rfl (by omega)) (dp (lj (lz (lj (lj (ln)))))) ?_
    refine h_tk (i := 4) (ls := #[T1,T1,T1,T1,T1,F0,F0,F0,F0,F0,F0,F0]) rfl (p_move rfl) (dp (lj (lz (lj (lj (ln)))))) ?_
    refine h_tk (i := 5) (ls := #[T1,T1,T1,T1,T1,T1,F0,F0,F0,F0,F0,F0]) rfl (p_rem (p := (((c.hand + (passed : Int)).tmod (c.frames.length : Int)) + 1)) (q := (c.frames.length : Int)) rfl rfl (by omega)) (dp (lj (lz (lj (lj (ln)))))) ?_
    refine h_tk (i := 6) (ls := #[T1,T1,T1,T1,T1,T1,T1,F0,F0,F0,F0,F0]) rfl (p_move rfl) (dp (lj (lz (lj (lj (ln)))))) ?_
    refine h_tk (i := 7) (ls := #[T1,T1,T1,T1,T1,T1,T1,T1,F0,F0,F0,F0]) rfl (p_build (cells := [Vi c.room, Vi ((((c.hand + (passed : Int)).tmod (c.frames.length : Int)) + 1).tmod (c.frames.length : Int)), .slice a5 (lc.set (((c.hand + (passed : Int)).tmod (c.frames.length : Int)).toNat) (⟨key, false⟩ : DFrame)).length c6]) fp49 ze49 rfl rfl) (dp (lj (lz (lj (lj (ln)))))) ?_
    refine h_tk (i := 8) (ls := #[T1,T1,T1,T1,T1,T1,T1,T1,T1,F0,F0,F0]) rfl (p_move rfl) (dp (lj (lz (lj (lj (ln)))))) ?_
    refine h_one (i := 9) (ls := #[T1,T1,T1,T1,T1,T1,T1,T1,T1,T1,F0,F0]) (by kernel_rfl) rfl rfl ?_
    refine o_storeN (i := 1) (vs := [Vi c.room, Vi ((((c.hand + (passed : Int)).tmod (c.frames.length : Int)) + 1).tmod (c.frames.length : Int)), .slice a5 (lc.set (((c.hand + (passed : Int)).tmod (c.frames.length : Int)).toNat) (⟨key, false⟩ : DFrame)).length c6]) (cs' := [Vi c.room, Vi ((((c.hand + (passed : Int)).tmod (c.frames.length : Int)) + 1).tmod (c.frames.length : Int)), .slice a5 (lc.set (((c.hand + (passed : Int)).tmod (c.frames.length : Int)).toNat) (⟨key, false⟩ : DFrame)).length c6]) rfl rfl rfl sz49 rfl rfl rfl rfl ?_
    refine o_nil ?_
    refine h_next (dp (lj (lz (lj (lj (ln)))))) ?_
    refine h_tk (i := 10) (ls := #[T1,T1,T1,T1,T1,T1,T1,T1,T1,T1,T1,F0]) rfl (p_assign rfl) (dp (lj (lz (lj (lj (ln)))))) ?_
    refine h_tk (i := 11) (ls := #[T1,T1,T1,T1,T1,T1,T1,T1,T1,T1,T1,T1]) rfl (p_assign rfl) (dp (lj (lz (lj (lj (ln)))))) ?_
    refine h_done (by kernel_rfl) ?_
    refine q_then (c_ret ?_)
    first
     | have ht := Clock.touch_hit2 (c := c) (key := key) (by omega) (by assumption) hI2
     | have ht := Clock.touch_room (c := c) (key := key) hid (by omega)
     | have ht := Clock.touch_ref (key := key) hy1 hI hid (by omega) (by omega) (by assumption)
    have hr0 : (c.room : Int) = ((Clock.touch c key).1).room := by
     simp only [ht, List.length_set]
    have hr1 : (((((c.hand + (passed : Int)).tmod (c.frames.length : Int)) + 1).tmod (c.frames.length : Int)) : Int) = ((Clock.touch c key).1).hand := by
     simp only [ht, List.length_set]
    have hr2 : ((lc.set (((c.hand + (passed : Int)).tmod (c.frames.length : Int)).toNat) (⟨key, false⟩ : DFrame)) : List DFrame) = ((Clock.touch c key).1).frames := by
     simp only [ht, List.length_set]
    have hr3 : (false : Bool) = ((Clock.touch c key).2.1) := by
     simp only [ht, List.length_set]
    have hr4 : ((lc[((c.hand + (passed : Int)).tmod (c.frames.length : Int)).toNat]).key : Int) = ((Clock.touch c key).2.2) := by
     simp only [ht, List.length_set]
    refine q_endM (p := (a5, c6)) S3 (rt3 rfl (r_cell (i := 1) rfl rfl sh49 rfl) (r_tmp rfl) (r_tmp rfl)) (i := 3) rfl ?_ ?_ ?_
    ·exact (by have hcc := congr (congr (congr (congr (congrArg (fun (y0 : Int) (y1 : Int) (y2 : List DFrame) (y3 : Bool) (y4 : Int) => (.tuple #[.agg #[.int .i64 y0, .int .i64 y1, .slice a5 y2.length c6], .bool y3, .int .i64 y4] : Value)) hr0) hr1) hr2) hr3) hr4; exact hcc)
    ·exact fun w hw => hw.above (i := 3) (j := 0) (by decide) rfl rfl
    ·intro w hw; exact Eq.mp (congrArg (fun y => SlO tFrame _ w a5 c6 y) hr2) ((hw.at (i := 0) rfl).here)

set_option maxHeartbeats 8000000 in
set_option maxRecDepth 100000 in
theorem clockRun_ok (c : DClock) (ac_0 : Option Addr) (cc_0 : Nat) (l : List Int) (al : Option Addr) (cl : Nat) (hy1 : Clock.Ok c) : FnM Tryz.prog 24 [.agg #[Vi c.room, Vi c.hand, .slice ac_0 c.frames.length cc_0], .slice al l.length cl] (fun w => Rd tFrame w ac_0 cc_0 c.frames ∧ Rd tInt w al cl l) (Option Addr × Nat) (fun p => .tuple #[.agg #[Vi (((Clock.runGo c 0 l).1).room), Vi (((Clock.runGo c 0 l).1).hand), .slice p.1 (((Clock.runGo c 0 l).1).frames).length p.2], Vi ((Clock.runGo c 0 l).2)]) (fun p S w => (SlR tFrame S w p.1 p.2 (((Clock.runGo c 0 l).1).frames) ∨ (p.1 = ac_0 ∧ p.2 = cc_0 ∧ (((Clock.runGo c 0 l).1).frames) = c.frames))) := by
 refine fnM (nt := 33) (F0 := [(0, .agg #[Vi c.room, Vi c.hand, .slice ac_0 c.frames.length cc_0]), (1, .slice al l.length cl)]) Tryz.func24 rfl Tryz.ntmps24 rfl rfl (fun w0 hpre => ?_)
 obtain ⟨hc_0, hl⟩ := hpre
 have hlhc_0 := hc_0.2.1
 have hlhl := hl.2.1
 refine c_seq (c_region ?_)
 refine o_box (v := .agg #[Vi c.room, Vi c.hand, .slice ac_0 c.frames.length cc_0]) rfl rfl (fun B1 => ?_)
 refine o_alloc ze49 rfl (fun B2 => ?_)
 refine o_as rfl rfl ?_
 refine o_nil (q_then (c_seq (c_region ?_)))
 refine o_as rfl rfl ?_
 refine o_nil (q_then (c_seq (c_seq (c_region ?_))))
 refine o_as rfl rfl ?_
 refine o_nil (q_then (c_block ?_))
 refine c_heap (H' := [loose tFrame (ac_0 = ac_0 ∧ cc_0 = cc_0 ∧ c.frames = c.frames) (fun _ => False) ac_0 cc_0 c.frames, box B2 [Vi 0, Vi 0, .slice none 0 0] 49, box B1 [Vi c.room, Vi c.hand, .slice ac_0 c.frames.length cc_0] 49, base w0]) (fun w hw => HeapIs.looseOf ⟨rfl, rfl, rfl⟩ hw) ?_
 refine c_loop (St := Int × Nat × DClock × Option Addr × Nat × (Nat → Prop))
  (fun ⟨hits, i, cc, acc_0, ccc_0, Scc_0⟩ => [(1, .slice al l.length cl), (2, .pointer (some ⟨B1, 0, none⟩)), (4, .pointer (some ⟨B2, 0, none⟩)), (6, Vi hits), (7, Vi (i : Int))])
  (fun ⟨hits, i, cc, acc_0, ccc_0, Scc_0⟩ => [loose tFrame (acc_0 = ac_0 ∧ ccc_0 = cc_0 ∧ cc.frames = c.frames) Scc_0 acc_0 ccc_0 cc.frames, box B2 [Vi 0, Vi 0, .slice none 0 0] 49, box B1 [Vi cc.room, Vi cc.hand, .slice acc_0 cc.frames.length ccc_0] 49, base w0])
  (fun ⟨hits, i, cc, acc_0, ccc_0, Scc_0⟩ => Clock.RInv c cc l hits i)
  (fun ⟨hits, i, cc, acc_0, ccc_0, Scc_0⟩ => l.length - i)
  (0, 0, c, ac_0, cc_0, (fun _ => False)) ?_ (sr (sr (sr (sr (sr (Sub.nil _)))))) (fun _ hw => hw) ?_
 ·exact Clock.RInv.start hy1 l
 rintro ⟨hits, i, cc, acc_0, ccc_0, Scc_0⟩ hI K hK4
 have hn0 := hI.n0
 have hn1 := hI.n1
 show SC _ _ Tryz.prog 33 w0 _ _ [(1, .slice al l.length cl), (2, .pointer (some ⟨B1, 0, none⟩)), (4, .pointer (some ⟨B2, 0, none⟩)), (6, Vi hits), (7, Vi (i : Int))] [loose tFrame (acc_0 = ac_0 ∧ ccc_0 = cc_0 ∧ cc.frames = c.frames) Scc_0 acc_0 ccc_0 cc.frames, box B2 [Vi 0, Vi 0, .slice none 0 0] 49, box B1 [Vi cc.room, Vi cc.hand, .slice acc_0 cc.frames.length ccc_0] 49, base w0]
 refine c_seq (c_seq (c_region ?_))
 refine o_mv rfl rfl ?_
 refine o_mv rfl rfl ?_
 refine o_p (p_len_slice rfl rfl Tryz.underlying22) ?_
 refine o_p (p_lt rfl rfl) ?_
 refine o_nil (q_then ?_)
 refine c_cond rfl (fun hc5 => ?_) (fun hc5 => ?_)
 ·simp only [decide_eq_true_eq] at hc5
  refine c_skip (q_then (c_seq (c_block (c_seq ?_))))
  refine c_cut (G := (Nat → Prop) × Option Addr × Nat × Nat) (fun ⟨S6_5, a6_5, c6_5, B6_10⟩ => [(1, .slice al l.length cl), (2, .pointer (some ⟨B1, 0, none⟩)), (4, .pointer (some ⟨B2, 0, none⟩)), (6, Vi hits), (7, Vi (i : Int)), (8, .pointer (some ⟨B6_10, 0, none⟩)), (9, .bool ((Clock.touch cc (l[i])).2.1))]) (fun ⟨S6_5, a6_5, c6_5, B6_10⟩ => [box B6_10 [Vi (((Clock.touch cc (l[i])).1).room), Vi (((Clock.touch cc (l[i])).1).hand), .slice a6_5 (((Clock.touch cc (l[i])).1).frames).length c6_5] 49, own tFrame S6_5 a6_5 c6_5 (((Clock.touch cc (l[i])).1).frames), loose tFrame (acc_0 = ac_0 ∧ ccc_0 = cc_0 ∧ cc.frames = c.frames) Scc_0 acc_0 ccc_0 cc.frames, box B2 [Vi 0, Vi 0, .slice none 0 0] 49, box B1 [Vi cc.room, Vi cc.hand, .slice acc_0 cc.frames.length ccc_0] 49, base w0]) (fun K hK7 => ?_) ?_
  ·refine c_held hmix [loose tFrame (acc_0 = ac_0 ∧ ccc_0 = cc_0 ∧ cc.frames = c.frames) Scc_0 acc_0 ccc_0 cc.frames, box B2 [Vi 0, Vi 0, .slice none 0 0] 49, box B1 [Vi cc.room, Vi cc.hand, .slice acc_0 cc.frames.length ccc_0] 49, base w0] rfl rfl ?_
   refine h_t0 (i := 0) (ls := #[T1,F0,F0,F0,F0,F0,F0,F0,F0,F0,F0,F0,F0,F0]) rfl (p_load_agg (i := 2) (vs := [Vi cc.room, Vi cc.hand, .slice acc_0 cc.frames.length ccc_0]) rfl rfl sh49 rfl rfl) ?_
   refine h_t0 (i := 1) (ls := #[T1,T1,F0,F0,F0,F0,F0,F0,F0,F0,F0,F0,F0,F0]) rfl (p_move rfl) ?_
   refine h_t0 (i := 2) (ls := #[T1,T1,T1,F0,F0,F0,F0,F0,F0,F0,F0,F0,F0,F0]) rfl (p_move rfl) ?_
   refine h_t0 (i := 3) (ls := #[T1,T1,T1,T1,F0,F0,F0,F0,F0,F0,F0,F0,F0,F0]) rfl (p_indexAddr (L := l) (T := tInt) (i := (i : Int)) rfl rfl (rd_base (i := 3) rfl hl) Tryz.underlying22 sz3 (by omega) (by omega)) ?_
   refine h_t0 (i := 4) (ls := #[T1,T1,T1,T1,T1,F0,F0,F0,F0,F0,F0,F0,F0,F0]) rfl (p_loadE1 (i := i) (T := tInt) (L := l) (v := Vi (l[i])) rfl (rd_base (i := 3) rfl hl) (by first | assumption | omega) sh3 rfl) ?_
   refine h_two (i := 5) (j := 10) (ls := #[T1,T1,T1,T1,T1,T1,F0,F0,F0,F0,F0,F0,F0,F0]) (ls' := #[T1,T1,T1,T1,T1,F0,F0,F0,F0,F0,T1,F0,F0,F0]) (by kernel_rfl) rfl rfl rfl rfl ?_ ?_
   ·refine o_callM rfl (clockTouch_ok cc acc_0 ccc_0 (l[i]) (by first | assumption | exact hI.ok | omega)) hf43 (fun w hw => (rd_loose (i := 0) rfl (fun hφ => by obtain ⟨h1, h2, h3⟩ := hφ; intro w hw; have g1 : acc_0 = ac_0 := h1; have g2 : ccc_0 = cc_0 := h2; have g3 : cc.frames = c.frames := h3; rw [g1, g2, g3]; exact (rd_base (i := 3) rfl hc_0) w hw)) w hw) rfl (fun _ _ _ _ ha hA => SlO.agree ha hA) ?_
    rintro ⟨a6_5, c6_5⟩ S6_5
    refine o_know (fun w hw => own_len (i := 0) (T := tFrame) hw rfl) (fun hlr6_5 => ?_)
    refine o_nil ?_
    refine h_next (dp (lz (lj (lj (lj (lj (ln))))))) ?_
    refine h_tk (i := 6) (ls := #[T1,T1,T1,T1,T1,T1,T1,F0,F0,F0,F0,F0,F0,F0]) rfl (p_move rfl) (dp (lz (lj (lj (lj (lj (ln))))))) ?_
    refine h_tk (i := 7) (ls := #[T1,T1,T1,T1,T1,T1,T1,T1,F0,F0,F0,F0,F0,F0]) rfl (p_extract rfl rfl) (dp (lz (lj (lj (lj (lj (ln))))))) ?_
    refine h_tk (i := 8) (ls := #[T1,T1,T1,T1,T1,T1,T1,T1,T1,F0,F0,F0,F0,F0]) rfl (p_extract rfl rfl) (dp (lz (lj (lj (lj (lj (ln))))))) ?_
    refine h_tk (i := 9) (ls := #[T1,T1,T1,T1,T1,T1,T1,T1,T1,T1,F0,F0,F0,F0]) rfl (p_extract rfl rfl) (dp (lz (lj (lj (lj (lj (ln))))))) ?_
    refine h_one (i := 10) (ls := #[T1,T1,T1,T1,T1,T1,T1,T1,T1,T1,T1,F0,F0,F0]) (by kernel_rfl) rfl rfl ?_
    refine o_alloc ze49 rfl (fun B6_10 => ?_)
    refine o_nil ?_
    refine h_next (dp (lz (lz (lj (lj (lj (lj (ln)))))))) ?_
    refine h_one (i := 11) (ls := #[T1,T1,T1,T1,T1,T1,T1,T1,T1,T1,T1,T1,F0,F0]) (by kernel_rfl) rfl rfl ?_
    refine o_storeN (i := 0) (vs := [Vi (((Clock.touch cc (l[i])).1).room), Vi (((Clock.touch cc (l[i])).1).hand), .slice a6_5 (((Clock.touch cc (l[i])).1).frames).length c6_5]) (cs' := [Vi (((Clock.touch cc (l[i])).1).room), Vi (((Clock.touch cc (l[i])).1).hand), .slice a6_5 (((Clock.touch cc (l[i])).1).frames).length c6_5]) rfl rfl rfl sz49 rfl rfl rfl rfl ?_
    refine o_nil ?_
    refine h_next (dp (lz (lz (lj (lj (lj (lj (ln)))))))) ?_
    refine h_tk (i := 12) (ls := #[T1,T1,T1,T1,T1,T1,T1,T1,T1,T1,T1,T1,T1,F0]) rfl (p_assign rfl) (dp (lz (lz (lj (lj (lj (lj (ln)))))))) ?_
    refine h_tk (i := 13) (ls := #[T1,T1,T1,T1,T1,T1,T1,T1,T1,T1,T1,T1,T1,T1]) rfl (p_assign rfl) (dp (lz (lz (lj (lj (lj (lj (ln)))))))) ?_
    refine h_done (by kernel_rfl) ?_
    refine q_kont hK7 (S6_5, a6_5, c6_5, B6_10) (sr (sr (sr (sr (sr (sr (sr (Sub.nil _)))))))) (pk [0, 1, 2, 3, 4, 5])
   ·refine o_alloc ze49 rfl (fun B6_10 => ?_)
    refine o_nil ?_
    refine h_next (dp (lz (lj (lj (lj (lj (ln))))))) ?_
    refine h_one (i := 5) (ls := #[T1,T1,T1,T1,T1,T1,F0,F0,F0,F0,T1,F0,F0,F0]) (by kernel_rfl) rfl rfl ?_
    refine o_callM rfl (clockTouch_ok cc acc_0 ccc_0 (l[i]) (by first | assumption | exact hI.ok | omega)) hf43 (fun w hw => (rd_loose (i := 1) rfl (fun hφ => by obtain ⟨h1, h2, h3⟩ := hφ; intro w hw; have g1 : acc_0 = ac_0 := h1; have g2 : ccc_0 = cc_0 := h2; have g3 : cc.frames = c.frames := h3; rw [g1, g2, g3]; exact (rd_base (i := 4) rfl hc_0) w hw)) w hw) rfl (fun _ _ _ _ ha hA => SlO.agree ha hA) ?_
    rintro ⟨a6_5, c6_5⟩ S6_5
    refine o_know (fun w hw => own_len (i := 0) (T := tFrame) hw rfl) (fun hlr6_5 => ?_)
    refine o_nil ?_
    refine h_next (dp (lz (lz (lj (lj (lj (lj (ln)))))))) ?_
    refine h_tk (i := 6) (ls := #[T1,T1,T1,T1,T1,T1,T1,F0,F0,F0,T1,F0,F0,F0]) rfl (p_move rfl) (dp (lz (lz (lj (lj (lj (lj (ln)))))))) ?_
    refine h_tk (i := 7) (ls := #[T1,T1,T1,T1,T1,T1,T1,T1,F0,F0,T1,F0,F0,F0]) rfl (p_extract rfl rfl) (dp (lz (lz (lj (lj (lj (lj (ln)))))))) ?_
    refine h_tk (i := 8) (ls := #[T1,T1,T1,T1,T1,T1,T1,T1,T1,F0,T1,F0,F0,F0]) rfl (p_extract rfl rfl) (dp (lz (lz (lj (lj (lj (lj (ln)))))))) ?_
    refine h_tk (i := 9) (ls := #[T1,T1,T1,T1,T1,T1,T1,T1,T1,T1,T1,F0,F0,F0]) rfl (p_extract rfl rfl) (dp (lz (lz (lj (lj (lj (lj (ln)))))))) ?_
    refine h_one (i := 11) (ls := #[T1,T1,T1,T1,T1,T1,T1,T1,T1,T1,T1,T1,F0,F0]) (by kernel_rfl) rfl rfl ?_
    refine o_storeN (i := 1) (vs := [Vi (((Clock.touch cc (l[i])).1).room), Vi (((Clock.touch cc (l[i])).1).hand), .slice a6_5 (((Clock.touch cc (l[i])).1).frames).length c6_5]) (cs' := [Vi (((Clock.touch cc (l[i])).1).room), Vi (((Clock.touch cc (l[i])).1).hand), .slice a6_5 (((Clock.touch cc (l[i])).1).frames).length c6_5]) rfl rfl rfl sz49 rfl rfl rfl rfl ?_
    refine o_nil ?_
    refine h_next (dp (lz (lz (lj (lj (lj (lj (ln)))))))) ?_
    refine h_tk (i := 12) (ls := #[T1,T1,T1,T1,T1,T1,T1,T1,T1,T1,T1,T1,T1,F0]) rfl (p_assign rfl) (dp (lz (lz (lj (lj (lj (lj (ln)))))))) ?_
    refine h_tk (i := 13) (ls := #[T1,T1,T1,T1,T1,T1,T1,T1,T1,T1,T1,T1,T1,T1]) rfl (p_assign rfl) (dp (lz (lz (lj (lj (lj (lj (ln)))))))) ?_
    refine h_done (by kernel_rfl) ?_
    refine q_kont hK7 (S6_5, a6_5, c6_5, B6_10) (sr (sr (sr (sr (sr (sr (sr (Sub.nil _)))))))) (pk [1, 0, 2, 3, 4, 5])
  rintro ⟨S6_5, a6_5, c6_5, B6_10⟩
  show SQ _ 33 w0 _ _ [(1, .slice al l.length cl), (2, .pointer (some ⟨B1, 0, none⟩)), (4, .pointer (some ⟨B2, 0, none⟩)), (6, Vi hits), (7, Vi (i : Int)), (8, .pointer (some ⟨B6_10, 0, none⟩)), (9, .bool ((Clock.touch cc (l[i])).2.1))] [box B6_10 [Vi (((Clock.touch cc (l[i])).1).room), Vi (((Clock.touch cc (l[i])).1).hand), .slice a6_5 (((Clock.touch cc (l[i])).1).frames).length c6_5] 49, own tFrame S6_5 a6_5 c6_5 (((Clock.touch cc (l[i])).1).frames), loose tFrame (acc_0 = ac_0 ∧ ccc_0 = cc_0 ∧ cc.frames = c.frames) Scc_0 acc_0 ccc_0 cc.frames, box B2 [Vi 0, Vi 0, .slice none 0 0] 49, box B1 [Vi cc.room, Vi cc.hand, .slice acc_0 cc.frames.length ccc_0] 49, base w0]
  refine q_know (fun w hw => own_len (i := 1) (T := tFrame) hw rfl) (fun hlr8 => ?_)
  refine q_then (c_seq (c_seq (c_region ?_)))
  refine o_mv rfl rfl ?_
  refine o_nil (q_then ?_)
  refine c_cond rfl (fun hc9 => ?_) (fun hc9 => ?_)
  ·skip
   refine c_region ?_
   refine o_mv rfl rfl ?_
   refine o_p (p_addb rfl rfl (by omega)) ?_
   refine o_as rfl rfl ?_
   refine o_nil (q_then (c_region ?_))
   refine o_p (p_load_agg (i := 0) (vs := [Vi (((Clock.touch cc (l[i])).1).room), Vi (((Clock.touch cc (l[i])).1).hand), .slice a6_5 (((Clock.touch cc (l[i])).1).frames).length c6_5]) rfl rfl sh49 rfl rfl) ?_
   refine o_storeN (i := 4) (vs := [Vi (((Clock.touch cc (l[i])).1).room), Vi (((Clock.touch cc (l[i])).1).hand), .slice a6_5 (((Clock.touch cc (l[i])).1).frames).length c6_5]) (cs' := [Vi (((Clock.touch cc (l[i])).1).room), Vi (((Clock.touch cc (l[i])).1).hand), .slice a6_5 (((Clock.touch cc (l[i])).1).frames).length c6_5]) rfl rfl rfl sz49 rfl rfl rfl rfl ?_
   refine o_nil ?_
   refine q_block_normal (q_then ?_)
   refine c_region ?_
   refine o_mv rfl rfl ?_
   refine o_p (p_addb rfl rfl (by omega)) ?_
   refine o_as rfl rfl ?_
   refine o_nil ?_
   refine q_heap (H' := [box B6_10 [Vi (((Clock.touch cc (l[i])).1).room), Vi (((Clock.touch cc (l[i])).1).hand), .slice a6_5 (((Clock.touch cc (l[i])).1).frames).length c6_5] 49, loose tFrame (a6_5 = ac_0 ∧ c6_5 = cc_0 ∧ (((Clock.touch cc (l[i])).1).frames) = c.frames) S6_5 a6_5 c6_5 (((Clock.touch cc (l[i])).1).frames), loose tFrame (acc_0 = ac_0 ∧ ccc_0 = cc_0 ∧ cc.frames = c.frames) Scc_0 acc_0 ccc_0 cc.frames, box B2 [Vi 0, Vi 0, .slice none 0 0] 49, box B1 [Vi (((Clock.touch cc (l[i])).1).room), Vi (((Clock.touch cc (l[i])).1).hand), .slice a6_5 (((Clock.touch cc (l[i])).1).frames).length c6_5] 49, base w0]) (fun w hw => HeapIs.toLoose (i := 1) (T := tFrame) rfl hw) ?_
   refine q_round hK4 ((hits + 1), i + 1, ((Clock.touch cc (l[i])).1), a6_5, c6_5, S6_5) ?_ ?_ ?_ ?_
   ·clear hK4
    first | exact hI.hit (by omega) (by assumption) | exact hI.miss (by omega) (by assumption)
   ·(try dsimp only); omega
   ·exact sr (sr (sr (sr (sr (Sub.nil _)))))
   ·exact pk [1, 3, 4, 5]
  ·skip
   refine c_skip (q_then (c_region ?_))
   refine o_p (p_load_agg (i := 0) (vs := [Vi (((Clock.touch cc (l[i])).1).room), Vi (((Clock.touch cc (l[i])).1).hand), .slice a6_5 (((Clock.touch cc (l[i])).1).frames).length c6_5]) rfl rfl sh49 rfl rfl) ?_
   refine o_storeN (i := 4) (vs := [Vi (((Clock.touch cc (l[i])).1).room), Vi (((Clock.touch cc (l[i])).1).hand), .slice a6_5 (((Clock.touch cc (l[i])).1).frames).length c6_5]) (cs' := [Vi (((Clock.touch cc (l[i])).1).room), Vi (((Clock.touch cc (l[i])).1).hand), .slice a6_5 (((Clock.touch cc (l[i])).1).frames).length c6_5]) rfl rfl rfl sz49 rfl rfl rfl rfl ?_
   refine o_nil ?_
   refine q_block_normal (q_then ?_)
   refine c_region ?_
   refine o_mv rfl rfl ?_
   refine o_p (p_addb rfl rfl (by omega)) ?_
   refine o_as rfl rfl ?_
   refine o_nil ?_
   refine q_heap (H' := [box B6_10 [Vi (((Clock.touch cc (l[i])).1).room), Vi (((Clock.touch cc (l[i])).1).hand), .slice a6_5 (((Clock.touch cc (l[i])).1).frames).length c6_5] 49, loose tFrame (a6_5 = ac_0 ∧ c6_5 = cc_0 ∧ (((Clock.touch cc (l[i])).1).frames) = c.frames) S6_5 a6_5 c6_5 (((Clock.touch cc (l[i])).1).frames), loose tFrame (acc_0 = ac_0 ∧ ccc_0 = cc_0 ∧ cc.frames = c.frames) Scc_0 acc_0 ccc_0 cc.frames, box B2 [Vi 0, Vi 0, .slice none 0 0] 49, box B1 [Vi (((Clock.touch cc (l[i])).1).room), Vi (((Clock.touch cc (l[i])).1).hand), .slice a6_5 (((Clock.touch cc (l[i])).1).frames).length c6_5] 49, base w0]) (fun w hw => HeapIs.toLoose (i := 1) (T := tFrame) rfl hw) ?_
   refine q_round hK4 (hits, i + 1, ((Clock.touch cc (l[i])).1), a6_5, c6_5, S6_5) ?_ ?_ ?_ ?_
   ·clear hK4
    first | exact hI.hit (by omega) (by assumption) | exact hI.miss (by omega) (by assumption)
   ·(try dsimp only); omega
   ·exact sr (sr (sr (sr (sr (Sub.nil _)))))
   ·exact pk [1, 3, 4, 5]
 ·simp only [decide_eq_false_iff_not, Int.not_lt] at hc5
  refine c_exit ?_
  refine q_then_exit (q_then_exit (q_block_exit (q_then ?_)))
  refine c_seq (c_region ?_)
  refine o_p (p_load_agg (i := 2) (vs := [Vi cc.room, Vi cc.hand, .slice acc_0 cc.frames.length ccc_0]) rfl rfl sh49 rfl rfl) ?_
  refine o_mv rfl rfl ?_
  refine o_storeN (i := 1) (vs := [Vi cc.room, Vi cc.hand, .slice acc_0 cc.frames.length ccc_0]) (cs' := [Vi cc.room, Vi cc.hand, .slice acc_0 cc.frames.length ccc_0]) rfl rfl rfl sz49 rfl rfl rfl rfl ?_
  refine o_as rfl rfl ?_
  refine o_nil (q_then (c_ret ?_))
  have hd := hI.done (by omega)
  have hr0 : (cc.room : Int) = ((Clock.runGo c 0 l).1).room := by
   simp only [hd]
  have hr1 : (cc.hand : Int) = ((Clock.runGo c 0 l).1).hand := by
   simp only [hd]
  have hr2 : (cc.frames : List DFrame) = ((Clock.runGo c 0 l).1).frames := by
   simp only [hd]
  have hr3 : (hits : Int) = ((Clock.runGo c 0 l).2) := by
   simp only [hd]
  refine q_endM (p := (acc_0, ccc_0)) Scc_0 (rt2 rfl (r_cell (i := 1) rfl rfl sh49 rfl) (r_tmp rfl)) (i := 3) rfl ?_ ?_ ?_
  ·exact (by have hcc := congr (congr (congr (congrArg (fun (y0 : Int) (y1 : Int) (y2 : List DFrame) (y3 : Int) => (.tuple #[.agg #[.int .i64 y0, .int .i64 y1, .slice acc_0 y2.length ccc_0], .int .i64 y3] : Value)) hr0) hr1) hr2) hr3; exact hcc)
  ·exact fun w hw => hw.above (i := 3) (j := 0) (by decide) rfl rfl
  ·intro w hw; exact Eq.mp (congrArg (fun y => SlR tFrame _ w acc_0 ccc_0 y ∨ (acc_0 = ac_0 ∧ ccc_0 = cc_0 ∧ y = c.frames)) hr2) (Or.imp (fun h => SlR.mono (fun b hb => by simp [hb]) h) id (hw.at (i := 0) rfl).here)
end Go.Proofs.YtfncgfcehkalnaaGreat
