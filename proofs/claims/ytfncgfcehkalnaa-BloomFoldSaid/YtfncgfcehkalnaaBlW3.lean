/- The walks, printed by a program from the translation and a specification. -/
import Derived.Test.YtfncgfcehkalnaaBlF
import Derived.Test.YtfncgfcehkalnaaBlLaw
import Derived.Test.YtfncgfcehkalnaaBlW2
namespace Go.Proofs.Ytfncgfcehkalnaa
open Go.Sx Go.RowKit
set_option maxHeartbeats 8000000 in
set_option maxRecDepth 100000 in
theorem isNaN_ok (x : Int) : Fn0 Try.prog 74 [Vi x] (fun _ => True) (.bool false) := by
 refine fn0 (nt := 6) (F0 := [(0, Vi x)]) Try.func74 rfl Try.ntmps74 rfl rfl (fun w0 hpre => ?_)
 refine c_seq (c_region ?_)
 refine o_as rfl rfl ?_
 refine o_nil (q_then (c_seq (c_region ?_)))
 refine o_mv rfl rfl ?_
 refine o_mv rfl rfl ?_
 refine o_p (p_ne rfl rfl) ?_
 refine o_as rfl rfl ?_
 refine o_nil (q_then (c_ret ?_))
 have hr0 : ((x != x) : Bool) = false := by
  simp
 refine q_end0 (v := .bool (x != x)) (rt1 rfl (r_tmp rfl)) (i := 0) rfl ?_
 exact (by have hcc := congrArg (fun (y0 : Bool) => (.bool y0 : Value)) hr0; exact hcc)

set_option maxHeartbeats 8000000 in
set_option maxRecDepth 100000 in
theorem isNaN2_ok (x : Int) : Fn0 Try.prog 58 [Vi x] (fun _ => True) (.bool false) := by
 refine fn0 (nt := 6) (F0 := [(0, Vi x)]) Try.func58 rfl Try.ntmps58 rfl rfl (fun w0 hpre => ?_)
 refine c_seq (c_region ?_)
 refine o_as rfl rfl ?_
 refine o_nil (q_then (c_seq (c_region ?_)))
 refine o_mv rfl rfl ?_
 refine o_mv rfl rfl ?_
 refine o_p (p_ne rfl rfl) ?_
 refine o_as rfl rfl ?_
 refine o_nil (q_then (c_ret ?_))
 have hr0 : ((x != x) : Bool) = false := by
  simp
 refine q_end0 (v := .bool (x != x)) (rt1 rfl (r_tmp rfl)) (i := 0) rfl ?_
 exact (by have hcc := congrArg (fun (y0 : Bool) => (.bool y0 : Value)) hr0; exact hcc)

set_option maxHeartbeats 8000000 in
set_option maxRecDepth 100000 in
theorem less_ok (x : Int) (y : Int) : Fn0 Try.prog 57 [Vi x, Vi y] (fun _ => True) (.bool (decide (x < y))) := by
 refine fn0 (nt := 17) (F0 := [(0, Vi x), (1, Vi y)]) Try.func57 rfl Try.ntmps57 rfl rfl (fun w0 hpre => ?_)
 refine c_seq (c_region ?_)
 refine o_as rfl rfl ?_
 refine o_nil (q_then (c_seq (c_region ?_)))
 refine o_mv rfl rfl ?_
 refine o_call0 (v := .bool false) rfl (isNaN_ok x) hf74 (fun _ _ => trivial) rfl ?_
 refine o_mv rfl rfl ?_
 refine o_guard_no rfl 7 rfl rfl rfl rfl rfl ?_
 refine o_guard_no rfl 7 rfl rfl rfl rfl rfl ?_
 refine o_guard_no rfl 7 rfl rfl rfl rfl rfl ?_
 refine o_pf rfl rfl rfl ?_
 refine o_mv rfl rfl ?_
 refine o_unguard 12 rfl rfl ?_
 refine o_mv rfl rfl ?_
 refine o_unguard 12 rfl rfl ?_
 refine o_mv rfl rfl ?_
 refine o_unguard 12 rfl rfl ?_
 refine o_p (p_lt rfl rfl) ?_
 refine o_pf rfl rfl rfl ?_
 refine o_as rfl rfl ?_
 refine o_nil (q_then (c_ret ?_))
 refine q_end0 (v := .bool (decide (x < y))) (rt1 rfl (r_tmp rfl)) (i := 0) rfl ?_
 exact rfl

set_option maxHeartbeats 8000000 in
set_option maxRecDepth 100000 in
theorem bsearch_ok (l : List Int) (al : Option Addr) (cl : Nat) (target : Int) (hy1 : Split (fun x : Int => cmpI x target) l) : Fn0 Try.prog 35 [.slice al l.length cl, Vi target] (fun w => Rd tInt w al cl l) (.tuple #[Vi (lowF (fun x : Int => cmpI x target) l : Int), .bool (hitF (fun x : Int => cmpI x target) l)]) := by
 refine fn0 (nt := 54) (F0 := [(0, .slice al l.length cl), (1, Vi target)]) Try.func35 rfl Try.ntmps35 rfl rfl (fun w0 hpre => ?_)
 have hl := hpre
 have hlhl := hl.2.1
 refine c_seq (c_region ?_)
 refine o_as rfl rfl ?_
 refine o_as rfl rfl ?_
 refine o_nil (q_then (c_seq (c_region ?_)))
 refine o_mv rfl rfl ?_
 refine o_p (p_len_slice rfl rfl Try.underlying22) ?_
 refine o_as rfl rfl ?_
 refine o_nil (q_then (c_seq (c_region ?_)))
 refine o_mv rfl rfl ?_
 refine o_as rfl rfl ?_
 refine o_as rfl rfl ?_
 refine o_nil (q_then (c_seq (c_block ?_)))
 refine c_loop (St := Int × Int)
  (fun ⟨i, j⟩ => [(0, .slice al l.length cl), (1, Vi target), (6, Vi (l.length : Int)), (7, Vi i), (8, Vi j)])
  (fun ⟨i, j⟩ => [base w0])
  (fun ⟨i, j⟩ => LowI (fun x : Int => cmpI x target) l i j)
  (fun ⟨i, j⟩ => (j - i).toNat)
  (0, (l.length : Int)) ?_ (sr (sr (sr (sr (sr (Sub.nil _)))))) (fun _ hw => hw) ?_
 ·exact LowI.start _ _
 rintro ⟨i, j⟩ hI K hK1
 have h0 := hI.i0
 have h1 := hI.ij
 have h2 := hI.jl
 have hh := half_eq h0 h1 (by omega)
 show SC _ _ Try.prog 54 w0 _ _ [(0, .slice al l.length cl), (1, Vi target), (6, Vi (l.length : Int)), (7, Vi i), (8, Vi j)] [base w0]
 refine c_seq (c_seq (c_region ?_))
 refine o_mv rfl rfl ?_
 refine o_mv rfl rfl ?_
 refine o_p (p_lt rfl rfl) ?_
 refine o_nil (q_then ?_)
 refine c_cond rfl (fun hc2 => ?_) (fun hc2 => ?_)
 ·simp only [decide_eq_true_eq] at hc2
  refine c_skip (q_then (c_block (c_seq (c_region ?_))))
  refine o_mv rfl rfl ?_
  refine o_mv rfl rfl ?_
  refine o_p (p_addb rfl rfl (by omega)) ?_
  refine o_p (pu_conv (z := (i + j)) rfl Try.underlying3 Try.underlying88) ?_
  refine o_p (pu_shr (p := (toU (i + j))) (m := 1) rfl rfl (by decide)) ?_
  refine o_p (p_conv (z := ((shrU (toU (i + j)) 1).toNat : Int)) rfl Try.underlying88 Try.underlying3) ?_
  refine o_as rfl rfl ?_
  refine o_nil (q_then (c_seq (c_region ?_)))
  refine o_mv rfl rfl ?_
  refine o_mv rfl rfl ?_
  refine o_p (p_indexAddr (L := l) (T := tInt) (i := (IntKind.i64.wrap ((shrU (toU (i + j)) 1).toNat : Int))) rfl rfl (rd_base (i := 0) rfl hl) Try.underlying22 sz3 (by omega) (by omega)) ?_
  refine o_p (p_loadE1 (i := (IntKind.i64.wrap ((shrU (toU (i + j)) 1).toNat : Int)).toNat) (T := tInt) (L := l) (v := Vi (l.getD ((IntKind.i64.wrap ((shrU (toU (i + j)) 1).toNat : Int)).toNat) default)) rfl (rd_base (i := 0) rfl hl) (by first | assumption | omega) sh3 (congrArg tInt.enc (getd_at (by first | assumption | omega) default))) ?_
  refine o_mv rfl rfl ?_
  refine o_call0 (v := .bool (decide ((l.getD ((IntKind.i64.wrap ((shrU (toU (i + j)) 1).toNat : Int)).toNat) default) < target))) rfl (less_ok (l.getD ((IntKind.i64.wrap ((shrU (toU (i + j)) 1).toNat : Int)).toNat) default) target) hf57 (fun _ _ => trivial) rfl ?_
  refine o_nil (q_then ?_)
  refine c_cond rfl (fun hc3 => ?_) (fun hc3 => ?_)
  ·simp only [decide_eq_true_eq] at hc3
   refine c_region ?_
   refine o_mv rfl rfl ?_
   refine o_p (p_addb rfl rfl (by omega)) ?_
   refine o_as rfl rfl ?_
   refine o_nil ?_
   refine q_block_normal ?_
   refine q_round hK1 (((IntKind.i64.wrap ((shrU (toU (i + j)) 1).toNat : Int)) + 1), j) ?_ ?_ ?_ ?_
   ·clear hK1
    first | exact hI.up hy1 (by omega) (by omega) (by omega) (cmpI_neg.2 (by rw [getd_at (by omega) default]; assumption)) | exact hI.down hy1 (by omega) (by omega) (by omega) (Bl.cmp_ge (by rw [getd_at (by omega) default]; omega))
   ·(try dsimp only); omega
   ·exact sr (sr (sr (sr (sr (Sub.nil _)))))
   ·exact pk [0]
  ·simp only [decide_eq_false_iff_not, Int.not_lt] at hc3
   refine c_region ?_
   refine o_mv rfl rfl ?_
   refine o_as rfl rfl ?_
   refine o_nil ?_
   refine q_block_normal ?_
   refine q_round hK1 (i, (IntKind.i64.wrap ((shrU (toU (i + j)) 1).toNat : Int))) ?_ ?_ ?_ ?_
   ·clear hK1
    first | exact hI.up hy1 (by omega) (by omega) (by omega) (cmpI_neg.2 (by rw [getd_at (by omega) default]; assumption)) | exact hI.down hy1 (by omega) (by omega) (by omega) (Bl.cmp_ge (by rw [getd_at (by omega) default]; omega))
   ·(try dsimp only); omega
   ·exact sr (sr (sr (sr (sr (Sub.nil _)))))
   ·exact pk [0]
 ·simp only [decide_eq_false_iff_not, Int.not_lt] at hc2
  refine c_exit ?_
  refine q_then_exit (q_then_exit (q_block_exit (q_then ?_)))
  refine c_seq (c_region ?_)
  refine o_mv rfl rfl ?_
  refine o_mv rfl rfl ?_
  refine o_mv rfl rfl ?_
  refine o_p (p_lt rfl rfl) ?_
  refine o_mv rfl rfl ?_
  refine o_and (p := 53) 18 (((l.getD i.toNat default) == target) || false) ?_ ?_ ?_
  ·intro hb4 hk
   simp only [decide_eq_true_eq] at hb4
   refine o_unguard 35 rfl rfl ?_
   refine o_mv rfl rfl ?_
   refine o_unguard 35 rfl rfl ?_
   refine o_mv rfl rfl ?_
   refine o_unguard 35 rfl rfl ?_
   refine o_p (p_indexAddr (L := l) (T := tInt) (i := i) rfl rfl (rd_base (i := 0) rfl hl) Try.underlying22 sz3 (by omega) (by omega)) ?_
   refine o_unguard 35 rfl rfl ?_
   refine o_p (p_loadE1 (i := i.toNat) (T := tInt) (L := l) (v := Vi (l.getD i.toNat default)) rfl (rd_base (i := 0) rfl hl) (by first | assumption | omega) sh3 (congrArg tInt.enc (getd_at (by first | assumption | omega) default))) ?_
   refine o_unguard 35 rfl rfl ?_
   refine o_mv rfl rfl ?_
   refine o_unguard 35 rfl rfl ?_
   refine o_p (p_eq rfl rfl) ?_
   refine o_unguard 35 rfl rfl ?_
   refine o_mv rfl rfl ?_
   refine o_or (p := 52) 10 false ?_ ?_ ?_
   ·intro hb5 hk
    simp only [beq_eq_false_iff_ne, ne_eq] at hb5
    refine o_unguard 42 rfl rfl ?_
    refine o_mv rfl rfl ?_
    refine o_unguard 42 rfl rfl ?_
    refine o_mv rfl rfl ?_
    refine o_unguard 42 rfl rfl ?_
    refine o_p (p_indexAddr (L := l) (T := tInt) (i := i) rfl rfl (rd_base (i := 0) rfl hl) Try.underlying22 sz3 (by omega) (by omega)) ?_
    refine o_unguard 42 rfl rfl ?_
    refine o_p (p_loadE1 (i := i.toNat) (T := tInt) (L := l) (v := Vi (l.getD i.toNat default)) rfl (rd_base (i := 0) rfl hl) (by first | assumption | omega) sh3 (congrArg tInt.enc (getd_at (by first | assumption | omega) default))) ?_
    refine o_unguard 42 rfl rfl ?_
    refine o_call0 (v := .bool false) rfl (isNaN2_ok (l.getD i.toNat default)) hf58 (fun _ _ => trivial) rfl ?_
    refine o_unguard 42 rfl rfl ?_
    refine o_mv rfl rfl ?_
    refine o_guard_no rfl 48 rfl rfl rfl rfl rfl ?_
    refine o_guard_no rfl 48 rfl rfl rfl rfl rfl ?_
    refine o_unguard 42 rfl rfl ?_
    refine o_pf rfl rfl rfl ?_
    refine o_unguard 35 rfl rfl ?_
    refine o_pf rfl rfl rfl ?_
    exact o_sub (sr (Sub.skip rfl (Sub.skip rfl (Sub.skip rfl (Sub.skip rfl (Sub.skip rfl (Sub.skip rfl (Sub.skip rfl (Sub.skip rfl (Sub.skip rfl (Sub.skip rfl (Sub.skip rfl (Sub.refl _))))))))))))) hk
   ·intro hb5 hk
    refine o_guard_no rfl 42 rfl rfl rfl rfl rfl ?_
    refine o_guard_no rfl 42 rfl rfl rfl rfl rfl ?_
    refine o_guard_no rfl 42 rfl rfl rfl rfl rfl ?_
    refine o_guard_no rfl 42 rfl rfl rfl rfl rfl ?_
    refine o_guard_no rfl 42 rfl rfl rfl rfl rfl ?_
    refine o_guard_no rfl 42 rfl rfl rfl rfl rfl ?_
    refine o_guard_no rfl 48 rfl rfl rfl rfl rfl ?_
    refine o_guard_no rfl 48 rfl rfl rfl rfl rfl ?_
    refine o_guard_no rfl 42 rfl rfl rfl rfl rfl ?_
    refine o_unguard 35 rfl rfl ?_
    refine o_pt rfl rfl rfl ?_
    exact o_sub (sr (Sub.skip rfl (Sub.skip rfl (Sub.skip rfl (Sub.skip rfl (Sub.skip rfl (Sub.skip rfl (Sub.skip rfl (Sub.skip rfl (Sub.skip rfl (Sub.skip rfl (Sub.skip rfl (Sub.refl _))))))))))))) hk
   refine o_pt rfl rfl rfl ?_
   exact o_sub (sr (Sub.skip rfl (Sub.skip rfl (Sub.skip rfl (Sub.skip rfl (Sub.skip rfl (Sub.skip rfl (Sub.skip rfl (Sub.skip rfl (Sub.skip rfl (Sub.refl _))))))))))) hk
  ·intro hb4 hk
   refine o_guard_no rfl 35 rfl rfl rfl rfl rfl ?_
   refine o_guard_no rfl 35 rfl rfl rfl rfl rfl ?_
   refine o_guard_no rfl 35 rfl rfl rfl rfl rfl ?_
   refine o_guard_no rfl 35 rfl rfl rfl rfl rfl ?_
   refine o_guard_no rfl 35 rfl rfl rfl rfl rfl ?_
   refine o_guard_no rfl 35 rfl rfl rfl rfl rfl ?_
   refine o_guard_no rfl 35 rfl rfl rfl rfl rfl ?_
   refine o_guard_no rfl 42 rfl rfl rfl rfl rfl ?_
   refine o_guard_no rfl 42 rfl rfl rfl rfl rfl ?_
   refine o_guard_no rfl 42 rfl rfl rfl rfl rfl ?_
   refine o_guard_no rfl 42 rfl rfl rfl rfl rfl ?_
   refine o_guard_no rfl 42 rfl rfl rfl rfl rfl ?_
   refine o_guard_no rfl 42 rfl rfl rfl rfl rfl ?_
   refine o_guard_no rfl 48 rfl rfl rfl rfl rfl ?_
   refine o_guard_no rfl 48 rfl rfl rfl rfl rfl ?_
   refine o_guard_no rfl 42 rfl rfl rfl rfl rfl ?_
   refine o_guard_no rfl 35 rfl rfl rfl rfl rfl ?_
   refine o_pf rfl rfl rfl ?_
   exact o_sub (sr (Sub.skip rfl (Sub.skip rfl (Sub.skip rfl (Sub.skip rfl (Sub.skip rfl (Sub.skip rfl (Sub.skip rfl (Sub.skip rfl (Sub.skip rfl (Sub.skip rfl (Sub.skip rfl (Sub.skip rfl (Sub.skip rfl (Sub.skip rfl (Sub.skip rfl (Sub.skip rfl (Sub.skip rfl (Sub.skip rfl (Sub.skip rfl (Sub.refl _))))))))))))))))))))) hk
  refine o_as rfl rfl ?_
  refine o_as rfl rfl ?_
  refine o_nil (q_then (c_ret ?_))
  have hr0 : (i : Int) = (lowF (fun x : Int => cmpI x target) l : Int) := by
   exact hI.done (by omega)
  have hr1 : ((decide (i < (l.length : Int)) && (((l.getD i.toNat default) == target) || false)) : Bool) = (hitF (fun x : Int => cmpI x target) l) := by
   exact Bl.hit_eq2 (hI.done (by omega))
  refine q_end0 (v := .tuple #[Vi i, .bool (decide (i < (l.length : Int)) && (((l.getD i.toNat default) == target) || false))]) (rt2 rfl (r_tmp rfl) (r_tmp rfl)) (i := 0) rfl ?_
  exact (by have hcc := congr (congrArg (fun (y0 : Int) (y1 : Bool) => (.tuple #[.int .i64 y0, .bool y1] : Value)) hr0) hr1; exact hcc)

set_option maxHeartbeats 8000000 in
set_option maxRecDepth 100000 in
theorem mayc1_ok (at_ : Int) (Bf : Nat) (f : DFilter) (af_0 : Option Addr) (cf_0 : Nat) (hy1 : Bl.Up f.set) : Fn0 Try.prog 34 [Vi at_, .pointer (some ⟨Bf, 0, none⟩)] (fun w => Rd tInt w af_0 cf_0 f.set ∧ (box Bf [Vi f.size, Vi f.hashes, .slice af_0 f.set.length cf_0] 24).A w) (.bool (!decide (at_ ∈ f.set))) := by
 refine fn0 (nt := 15) (F0 := [(0, Vi at_), (1, .pointer (some ⟨Bf, 0, none⟩))]) Try.func34 rfl Try.ntmps34 rfl rfl (fun w0 hpre => ?_)
 obtain ⟨hf_0, hBf⟩ := hpre
 have hlhf_0 := hf_0.2.1
 refine c_seq (c_region ?_)
 refine o_as rfl rfl ?_
 refine o_nil (q_then (c_seq (c_region ?_)))
 refine o_p (p_fieldAddr (j' := 2) rfl fo24_2 rfl) ?_
 refine o_p (p_loadR (v := .slice af_0 f.set.length cf_0) rfl (rbox_base (i := 0) rfl hBf) sh22 rfl) ?_
 refine o_mv rfl rfl ?_
 refine o_call0 (v := .tuple #[Vi (lowF (fun x : Int => cmpI x at_) f.set : Int), .bool (hitF (fun x : Int => cmpI x at_) f.set)]) rfl (bsearch_ok f.set af_0 cf_0 at_ (by first | assumption | exact Bl.split_up hy1 _)) hf35 (fun w hw => (rd_base (i := 0) rfl hf_0) w hw) rfl ?_
 refine o_mv rfl rfl ?_
 refine o_ex rfl rfl rfl ?_
 refine o_ex rfl rfl rfl ?_
 refine o_as rfl rfl ?_
 refine o_as rfl rfl ?_
 refine o_nil (q_then (c_seq (c_region ?_)))
 refine o_mv rfl rfl ?_
 refine o_p (p_not (b := (hitF (fun x : Int => cmpI x at_) f.set)) rfl) ?_
 refine o_as rfl rfl ?_
 refine o_nil (q_then (c_ret ?_))
 have hr0 : ((!(hitF (fun x : Int => cmpI x at_) f.set)) : Bool) = (!decide (at_ ∈ f.set)) := by
  rw [Bl.hit_mem hy1]
 refine q_end0 (v := .bool (!(hitF (fun x : Int => cmpI x at_) f.set))) (rt1 rfl (r_tmp rfl)) (i := 0) rfl ?_
 exact (by have hcc := congrArg (fun (y0 : Bool) => (.bool y0 : Value)) hr0; exact hcc)

set_option maxHeartbeats 8000000 in
set_option maxRecDepth 100000 in
theorem bmay_ok (f : DFilter) (af_0 : Option Addr) (cf_0 : Nat) (s : ByteArray) : Fn0 Try.prog 12 [.agg #[Vi f.size, Vi f.hashes, .slice af_0 f.set.length cf_0], .string s] (fun w => Rd tInt w af_0 cf_0 f.set) (.tuple #[.bool (Bl.may f s), Vi (Bl.keyErr f s)]) := by
 refine fn0 (nt := 21) (F0 := [(0, .agg #[Vi f.size, Vi f.hashes, .slice af_0 f.set.length cf_0]), (1, .string s)]) Try.func12 rfl Try.ntmps12 rfl rfl (fun w0 hpre => ?_)
 have hf_0 := hpre
 have hlhf_0 := hf_0.2.1
 refine c_seq (c_region ?_)
 refine o_box (v := .agg #[Vi f.size, Vi f.hashes, .slice af_0 f.set.length cf_0]) rfl rfl (fun B1 => ?_)
 refine o_as rfl rfl ?_
 refine o_as rfl rfl ?_
 refine o_nil (q_then (c_seq (c_seq (c_region ?_))))
 refine o_p (p_load_agg (i := 0) (vs := [Vi f.size, Vi f.hashes, .slice af_0 f.set.length cf_0]) rfl rfl sh24 rfl rfl) ?_
 refine o_mv rfl rfl ?_
 refine o_call0 (v := Vi (Bl.keyErr f s)) rfl (bcheckK_ok f af_0 cf_0 s) hf30 (fun w hw => (rd_base (i := 1) rfl hf_0) w hw) rfl ?_
 refine o_as rfl rfl ?_
 refine o_nil (q_then (c_seq (c_region ?_)))
 refine o_mv rfl rfl ?_
 refine o_p (p_ne rfl rfl) ?_
 refine o_nil (q_then ?_)
 refine c_cond rfl (fun hc2 => ?_) (fun hc2 => ?_)
 ·simp only [bne_iff_ne, ne_eq] at hc2
  refine c_seq (c_region ?_)
  refine o_mv rfl rfl ?_
  refine o_as rfl rfl ?_
  refine o_as rfl rfl ?_
  refine o_nil (q_then (c_ret ?_))
  refine q_then_ret ?_
  have hr0 : (false : Bool) = (Bl.may f s) := by
   first | exact (Bl.may_bad (by assumption)).symm | exact (Bl.may_ok hke).symm | exact hke.symm | rfl
  refine q_end0 (v := .tuple #[.bool false, Vi (Bl.keyErr f s)]) (rt2 rfl (r_tmp rfl) (r_tmp rfl)) (i := 1) rfl ?_
  exact (by have hcc := congrArg (fun (y0 : Bool) => (.tuple #[.bool y0, Vi (Bl.keyErr f s)] : Value)) hr0; exact hcc)
 ·simp only [bne_eq_false_iff_eq] at hc2
  have hke := hc2
  have hko := Bl.key_ok hc2
  have hok := hko.1
  have hsz := hok.size
  have hha := hok.hashes
  have hln := hok.len
  have hpl := Bl.places_len f s
  have hup := hok.up
  refine c_skip (q_then (c_seq (c_region ?_)))
  refine o_p (p_load_agg (i := 0) (vs := [Vi f.size, Vi f.hashes, .slice af_0 f.set.length cf_0]) rfl rfl sh24 rfl rfl) ?_
  refine o_mv rfl rfl ?_
  refine o_callM rfl (bplaces_ok f af_0 cf_0 s (by first | assumption | exact ⟨hok, hko.2⟩)) hf31 (fun w hw => (rd_base (i := 1) rfl hf_0) w hw) rfl (fun _ _ _ _ ha hA => SlO.agree ha hA) ?_
  rintro ⟨a5, c6⟩ S3
  refine o_know (fun w hw => own_len (i := 0) (T := tInt) hw rfl) (fun hlr7 => ?_)
  refine o_p (p_makeFunc (vs := [.pointer (some ⟨B1, 0, none⟩)]) rfl) ?_
  refine o_call0 (v := .bool ((Bl.places f s).any (fun x : Int => (!decide (x ∈ f.set))))) rfl (containsFunc_Int_ok (Bl.places f s) a5 c6 34 [.pointer (some ⟨B1, 0, none⟩)] (fun x => (!decide (x ∈ f.set))) (fun w => Rd tInt w af_0 cf_0 f.set ∧ (box B1 [Vi f.size, Vi f.hashes, .slice af_0 f.set.length cf_0] 24).A w) (fun _ _ hb h => ⟨Rd.below h.1 hb.block hb.size, box_below hb h.2⟩) (fun x => mayc1_ok x B1 f af_0 cf_0 (by first | assumption | exact hup)) hf34) hf33 (fun w hw => ⟨(rd_own (i := 0) rfl) w hw, ⟨(rd_base (i := 2) rfl hf_0) w hw, (hw.at (i := 1) rfl).here⟩⟩) rfl ?_
  refine o_as rfl rfl ?_
  refine o_nil (q_then (c_seq (c_region ?_)))
  refine o_mv rfl rfl ?_
  refine o_p (p_not (b := ((Bl.places f s).any (fun x : Int => (!decide (x ∈ f.set))))) rfl) ?_
  refine o_as rfl rfl ?_
  refine o_as rfl rfl ?_
  refine o_nil (q_then (c_ret ?_))
  have hr0 : ((!((Bl.places f s).any (fun x : Int => (!decide (x ∈ f.set))))) : Bool) = (Bl.may f s) := by
   first | exact (Bl.may_bad (by assumption)).symm | exact (Bl.may_ok hke).symm | exact hke.symm | rfl
  have hr1 : (0 : Int) = (Bl.keyErr f s) := by
   first | exact (Bl.may_bad (by assumption)).symm | exact (Bl.may_ok hke).symm | exact hke.symm | rfl
  refine q_end0 (v := .tuple #[.bool (!((Bl.places f s).any (fun x : Int => (!decide (x ∈ f.set))))), Vi 0]) (rt2 rfl (r_tmp rfl) (r_tmp rfl)) (i := 2) rfl ?_
  exact (by have hcc := congr (congrArg (fun (y0 : Bool) (y1 : Int) => (.tuple #[.bool y0, .int .i64 y1] : Value)) hr0) hr1; exact hcc)
end Go.Proofs.Ytfncgfcehkalnaa
