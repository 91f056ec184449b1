/- The walks, printed by a program from the translation and a specification. -/
import Derived.Test.YthecfjipaepcgaaWkF
import Derived.Test.YthecfjipaepcgaaWsLaw5
import Derived.Test.YthecfjipaepcgaaExLaw
import Derived.Test.YthecfjipaepcgaaWkW1
namespace Go.Proofs.Ythecfjipaepcgaa
open Go.Sx Go.RowKit
set_option maxHeartbeats 8000000 in
set_option maxRecDepth 100000 in
theorem wwindow_ok (n : Int) : Fn0 Try.prog 74 [.int .i64 n] (fun _ => True) (.bool (Ws.okWin n)) := by
  refine fn0 (nt := 9) (F0 := [(0, .int .i64 n)]) Try.func74 rfl Try.ntmps74 rfl rfl (fun w0 hpre => ?_)
  refine c_seq ?_
  refine c_region ?_
  refine o_pure (p_assign (v := .bool false) rfl) rfl rfl rfl ?_
  refine o_nil ?_
  refine q_then ?_
  refine c_seq ?_
  refine c_region ?_
  refine o_pure (p_move (v := .int .i64 n) rfl) rfl rfl rfl ?_
  refine o_pure (p_ge (p := n) (q := 1) rfl rfl) rfl rfl rfl ?_
  refine o_pure (p_move (v := .bool (decide (1 ≤ n))) rfl) rfl rfl rfl ?_
  refine o_and (p := 8) 3 (decide (n ≤ 200)) ?_ ?_ ?_
  · intro hb1 hk
    simp only [decide_eq_true_eq] at hb1
    refine o_unguard 5 rfl rfl ?_
    refine o_pure (p_move (v := .int .i64 n) rfl) rfl rfl rfl ?_
    refine o_unguard 5 rfl rfl ?_
    refine o_pure (p_le (p := n) (q := 200) rfl rfl) rfl rfl rfl ?_
    refine o_pure (p_pick_true (u := .bool (decide (n ≤ 200))) rfl rfl) rfl rfl rfl ?_
    exact o_sub (Sub.cons rfl (Sub.skip rfl (Sub.skip rfl (Sub.skip rfl (Sub.skip rfl (Sub.refl _)))))) hk
  · intro hb1 hk
    refine o_guard_no rfl 5 rfl rfl rfl rfl rfl ?_
    refine o_guard_no rfl 5 rfl rfl rfl rfl rfl ?_
    refine o_pure (p_pick_false (v := .bool false) rfl rfl) rfl rfl rfl ?_
    exact o_sub (Sub.cons rfl (Sub.skip rfl (Sub.skip rfl (Sub.skip rfl (Sub.skip rfl (Sub.refl _)))))) hk
  refine o_pure (p_assign (v := .bool (decide (1 ≤ n) && decide (n ≤ 200))) rfl) rfl rfl rfl ?_
  refine o_nil ?_
  refine q_then ?_
  refine c_ret ?_
  have hr0 : ((decide (1 ≤ n) && decide (n ≤ 200)) : Bool) = (Ws.okWin n) := by
    rfl
  refine q_end0 (v := .bool (decide (1 ≤ n) && decide (n ≤ 200))) (rt1 rfl (r_tmp rfl)) (i := 0) rfl ?_
  exact (by have hcc := congrArg (fun (y0 : Bool) => (.bool y0 : Value)) hr0; exact hcc)

set_option maxHeartbeats 8000000 in
set_option maxRecDepth 100000 in
theorem wcheck_ok (l : List Int) (al : Option Addr) (cl : Nat) (wd : Int) : Fn0 Try.prog 78 [.slice al l.length cl, .int .i64 wd] (fun w => Rd tInt w al cl l) (.int .i64 (Ws.check l wd)) := by
  refine fn0 (nt := 16) (F0 := [(0, .slice al l.length cl), (1, .int .i64 wd)]) Try.func78 rfl Try.ntmps78 rfl rfl (fun w0 hpre => ?_)
  have hl := hpre
  have hlhl := hl.2.1
  refine c_seq ?_
  refine c_region ?_
  refine o_pure (p_assign (v := .int .i64 0) rfl) rfl rfl rfl ?_
  refine o_nil ?_
  refine q_then ?_
  refine c_seq ?_
  refine c_region ?_
  refine o_pure (p_move (v := .slice al l.length cl) rfl) rfl rfl rfl ?_
  refine o_call0 (v := .int .i64 (Lru.trace l)) rfl (checkTrace_ok l al cl) hf73 (fun w hw => (rd_base (i := 0) rfl hl) w hw) rfl ?_
  refine o_pure (p_assign (v := .int .i64 (Lru.trace l)) rfl) rfl rfl rfl ?_
  refine o_nil ?_
  refine q_then ?_
  refine c_seq ?_
  refine c_seq ?_
  refine c_region ?_
  refine o_pure (p_move (v := .int .i64 (Lru.trace l)) rfl) rfl rfl rfl ?_
  refine o_pure (p_eq (p := (Lru.trace l)) (q := 0) rfl rfl) rfl rfl rfl ?_
  refine o_pure (p_move (v := .bool ((Lru.trace l) == 0)) rfl) rfl rfl rfl ?_
  refine o_and (p := 14) 4 (!(Ws.okWin wd)) ?_ ?_ ?_
  · intro hb1 hk
    simp only [beq_iff_eq] at hb1
    refine o_unguard 10 rfl rfl ?_
    refine o_pure (p_move (v := .int .i64 wd) rfl) rfl rfl rfl ?_
    refine o_unguard 10 rfl rfl ?_
    refine o_call0 (v := .bool (Ws.okWin wd)) rfl (wwindow_ok wd) hf74 (fun _ _ => trivial) rfl ?_
    refine o_unguard 10 rfl rfl ?_
    refine o_pure (p_not (b := (Ws.okWin wd)) rfl) rfl rfl rfl ?_
    refine o_pure (p_pick_true (u := .bool (!(Ws.okWin wd))) rfl rfl) rfl rfl rfl ?_
    exact o_sub (Sub.cons rfl (Sub.skip rfl (Sub.skip rfl (Sub.skip rfl (Sub.skip rfl (Sub.skip rfl (Sub.refl _))))))) hk
  · intro hb1 hk
    refine o_guard_no rfl 10 rfl rfl rfl rfl rfl ?_
    refine o_guard_no rfl 10 rfl rfl rfl rfl rfl ?_
    refine o_guard_no rfl 10 rfl rfl rfl rfl rfl ?_
    refine o_pure (p_pick_false (v := .bool false) rfl rfl) rfl rfl rfl ?_
    exact o_sub (Sub.cons rfl (Sub.skip rfl (Sub.skip rfl (Sub.skip rfl (Sub.skip rfl (Sub.skip rfl (Sub.refl _))))))) hk
  refine o_nil ?_
  refine q_then ?_
  refine c_cond (b := (((Lru.trace l) == 0) && (!(Ws.okWin wd)))) rfl (fun hc2 => ?_) (fun hc2 => ?_)
  · simp only [Bool.and_eq_true, beq_iff_eq, Bool.not_eq_true'] at hc2
    have hcc := hc2
    refine c_region ?_
    refine o_pure (p_assign (v := .int .i64 3) rfl) rfl rfl rfl ?_
    refine o_nil ?_
    refine q_then ?_
    refine c_seq ?_
    refine c_region ?_
    refine o_pure (p_move (v := .int .i64 3) rfl) rfl rfl rfl ?_
    refine o_pure (p_assign (v := .int .i64 3) rfl) rfl rfl rfl ?_
    refine o_nil ?_
    refine q_then ?_
    refine c_ret ?_
    have hr0 : (3 : Int) = (Ws.check l wd) := by
      rcases Ws.chk_cases l wd with ⟨h1, h2⟩ | ⟨h1, h2, h3⟩ | ⟨h1, h2, h3⟩ <;> simp_all
    refine q_end0 (v := .int .i64 3) (rt1 rfl (r_tmp rfl)) (i := 0) rfl ?_
    exact (by have hcc := congrArg (fun (y0 : Int) => (.int .i64 y0 : Value)) hr0; exact hcc)
  · simp only [Bool.and_eq_false_iff, beq_eq_false_iff_ne, ne_eq, Bool.not_eq_false'] at hc2
    have hcc := hc2
    refine c_skip ?_
    refine q_then ?_
    refine c_seq ?_
    refine c_region ?_
    refine o_pure (p_move (v := .int .i64 (Lru.trace l)) rfl) rfl rfl rfl ?_
    refine o_pure (p_assign (v := .int .i64 (Lru.trace l)) rfl) rfl rfl rfl ?_
    refine o_nil ?_
    refine q_then ?_
    refine c_ret ?_
    have hr0 : ((Lru.trace l) : Int) = (Ws.check l wd) := by
      rcases Ws.chk_cases l wd with ⟨h1, h2⟩ | ⟨h1, h2, h3⟩ | ⟨h1, h2, h3⟩ <;> simp_all
    refine q_end0 (v := .int .i64 (Lru.trace l)) (rt1 rfl (r_tmp rfl)) (i := 0) rfl ?_
    exact (by have hcc := congrArg (fun (y0 : Int) => (.int .i64 y0 : Value)) hr0; exact hcc)

set_option maxHeartbeats 8000000 in
set_option maxRecDepth 100000 in
theorem sets1_ok (l : List Int) (al : Option Addr) (cl : Nat) (Bs : Nat) (wd : Int) (Bv : Nat) (hy1 : 1 ≤ wd ∧ wd ≤ 200 ∧ l.length ≤ 200) : ItOk Try.prog 100 [.pointer (some ⟨Bs, 0, none⟩), .pointer (some ⟨Bv, 0, none⟩)] (fun e w => ((box Bs [.slice al l.length cl] 45).A w ∧ (outer w [e]).S Bs) ∧ SlR tInt (outer w [e]).S w al cl l ∧ ((box Bv [.int .i64 wd] 3).A w ∧ (outer w [e]).S Bv)) Nat (fun x k => [.int .i64 (k : Int), .map (some x)]) (fun x k => [mapE kInt (fun z : Int => .int .i64 z) x (Ws.mapAt l wd (k + 1))]) (l.length) := by
  refine fnIt (nt := 45) (F1 := [(1, .pointer (some ⟨Bs, 0, none⟩)), (2, .pointer (some ⟨Bv, 0, none⟩))]) Try.func100 rfl Try.ntmps100 rfl rfl ?_
  intro l_ φ ψ e0 w0 hpre hφ Y
  obtain ⟨hb_Bs, hl, hb_Bv⟩ := hpre
  have hlhl := hl.2.1
  refine c_seq ?_
  refine c_region ?_
  refine o_makeMap (ν := Int) kInt (fun z : Int => .int .i64 z) rfl (fun B1 => ?_)
  refine o_pure (p_assign (v := .map (some B1)) rfl) rfl rfl rfl ?_
  refine o_nil ?_
  refine q_then ?_
  refine c_seq ?_
  refine c_region ?_
  refine o_pure (p_loadR (v := .slice al l.length cl) rfl (rbox_outer (i := 1) rfl hb_Bs) sh45 rfl) rfl rfl rfl ?_
  refine o_pure (p_len_slice (len := l.length) rfl rfl Try.underlying45) rfl rfl rfl ?_
  refine o_pure (p_move (v := .int .i64 0) rfl) rfl rfl rfl ?_
  refine o_nil ?_
  refine q_then ?_
  refine c_block ?_
  refine c_loop (St := Nat × List (Int × Int) × Ent)
    (fun ⟨k, m, e⟩ => [(0, .func (.yield l_) #[] #[]), (1, .pointer (some ⟨Bs, 0, none⟩)), (2, .pointer (some ⟨Bv, 0, none⟩)), (4, .map (some B1)), (9, .slice al l.length cl), (10, .int .i64 (l.length : Int)), (11, .int .i64 (k : Int))])
    (fun ⟨k, m, e⟩ => [mapE kInt (fun z : Int => .int .i64 z) B1 m, outer w0 [e0], e])
    (fun ⟨k, m, e⟩ => m = Ws.mapAt l wd k ∧ k ≤ l.length ∧ φ k e)
    (fun ⟨k, m, e⟩ => l.length - k)
    (0, [], e0) ?_ (Sub.cons rfl (Sub.cons rfl (Sub.cons rfl (Sub.cons rfl (Sub.cons rfl (Sub.cons rfl (Sub.cons rfl (Sub.nil _)))))))) (fun _ hw => hw) ?_
  · exact ⟨rfl, Nat.zero_le _, hφ⟩
  rintro ⟨k, m, e⟩ hI K hK2
  show SC _ _ Try.prog 45 w0 _ _ [(0, .func (.yield l_) #[] #[]), (1, .pointer (some ⟨Bs, 0, none⟩)), (2, .pointer (some ⟨Bv, 0, none⟩)), (4, .map (some B1)), (9, .slice al l.length cl), (10, .int .i64 (l.length : Int)), (11, .int .i64 (k : Int))] [mapE kInt (fun z : Int => .int .i64 z) B1 m, outer w0 [e0], e]
  refine c_seq ?_
  refine c_region ?_
  refine o_pure (p_lt (p := (k : Int)) (q := (l.length : Int)) rfl rfl) rfl rfl rfl ?_
  refine o_nil ?_
  refine q_then ?_
  refine c_seq ?_
  refine c_cond (b := decide ((k : Int) < (l.length : Int))) rfl (fun hc3 => ?_) (fun hc3 => ?_)
  · simp only [decide_eq_true_eq] at hc3
    refine c_skip ?_
    refine q_then ?_
    refine c_seq ?_
    refine c_block ?_
    refine c_seq ?_
    refine c_region ?_
    refine o_pure (p_move (v := .int .i64 (k : Int)) rfl) rfl rfl rfl ?_
    refine o_pure (p_indexAddr (L := l) (T := tInt) (i := (k : Int)) rfl rfl (rd_outer (i := 1) rfl hl) Try.underlying45 sz3 (by omega) (by omega)) rfl rfl rfl ?_
    refine o_pure (p_loadE1 (i := k) (T := tInt) (L := l) (v := .int .i64 (l[k])) rfl (rd_outer (i := 1) rfl hl) (by first | assumption | omega) sh3 rfl) rfl rfl rfl ?_
    refine o_pure (p_assign (v := .int .i64 (k : Int)) rfl) rfl rfl rfl ?_
    refine o_pure (p_assign (v := .int .i64 (l[k])) rfl) rfl rfl rfl ?_
    refine o_nil ?_
    refine q_then ?_
    refine c_seq ?_
    refine c_region ?_
    refine o_pure (p_move (v := .map (some B1)) rfl) rfl rfl rfl ?_
    refine o_pure (p_move (v := .int .i64 (l[k])) rfl) rfl rfl rfl ?_
    refine o_pure (p_lookup1 (i := 0) (K := kInt) (ve := (fun z : Int => .int .i64 z)) (m := m) (k := l[k]) (dflt := 0) rfl rfl rfl Try.underlying110 Try.underlying3 zv3) rfl rfl rfl ?_
    refine o_pure (p_addb (p := ((AL.get m (l[k])).getD 0)) (q := 1) rfl rfl (by have q := Ws.val_bd hy1.1 hI.1 hI.2.1 l[k]; omega)) rfl rfl rfl ?_
    refine o_mapUpdate (i := 0) (K := kInt) (ve := (fun z : Int => .int .i64 z)) (m := m) (k := l[k]) (v := (((AL.get m (l[k])).getD 0) + 1)) rfl rfl rfl rfl Try.underlying110 Try.underlying3 ?_
    refine o_nil ?_
    refine q_then ?_
    refine c_seq ?_
    refine c_seq ?_
    refine c_region ?_
    refine o_pure (p_move (v := .int .i64 (k : Int)) rfl) rfl rfl rfl ?_
    refine o_pure (p_loadR (v := .int .i64 wd) rfl (rbox_outer (i := 1) rfl hb_Bv) sh3 rfl) rfl rfl rfl ?_
    refine o_pure (p_ge (p := (k : Int)) (q := wd) rfl rfl) rfl rfl rfl ?_
    refine o_nil ?_
    refine q_then ?_
    refine c_cond (b := decide (wd ≤ (k : Int))) rfl (fun hc4 => ?_) (fun hc4 => ?_)
    · simp only [decide_eq_true_eq] at hc4
      refine c_seq ?_
      refine c_region ?_
      refine o_pure (p_loadR (v := .slice al l.length cl) rfl (rbox_outer (i := 1) rfl hb_Bs) sh45 rfl) rfl rfl rfl ?_
      refine o_pure (p_move (v := .int .i64 (k : Int)) rfl) rfl rfl rfl ?_
      refine o_pure (p_loadR (v := .int .i64 wd) rfl (rbox_outer (i := 1) rfl hb_Bv) sh3 rfl) rfl rfl rfl ?_
      refine o_pure (p_subb (p := (k : Int)) (q := wd) rfl rfl (by omega)) rfl rfl rfl ?_
      refine o_pure (p_indexAddr (L := l) (T := tInt) (i := ((k : Int) - wd)) rfl rfl (rd_outer (i := 1) rfl hl) Try.underlying45 sz3 (by omega) (by omega)) rfl rfl rfl ?_
      refine o_pure (p_loadE1 (i := ((k : Int) - wd).toNat) (T := tInt) (L := l) (v := .int .i64 (l[((k : Int) - wd).toNat])) rfl (rd_outer (i := 1) rfl hl) (by first | assumption | omega) sh3 rfl) rfl rfl rfl ?_
      refine o_pure (p_assign (v := .int .i64 (l[((k : Int) - wd).toNat])) rfl) rfl rfl rfl ?_
      refine o_nil ?_
      refine q_then ?_
      refine c_seq ?_
      refine c_region ?_
      refine o_pure (p_move (v := .map (some B1)) rfl) rfl rfl rfl ?_
      refine o_pure (p_move (v := .int .i64 (l[((k : Int) - wd).toNat])) rfl) rfl rfl rfl ?_
      refine o_pure (p_lookup1 (i := 0) (K := kInt) (ve := (fun z : Int => .int .i64 z)) (m := (AL.set m (l[k]) (((AL.get m (l[k])).getD 0) + 1))) (k := l[((k : Int) - wd).toNat]) (dflt := 0) rfl rfl rfl Try.underlying110 Try.underlying3 zv3) rfl rfl rfl ?_
      refine o_pure (p_subb (p := ((AL.get (AL.set m (l[k]) (((AL.get m (l[k])).getD 0) + 1)) (l[((k : Int) - wd).toNat])).getD 0)) (q := 1) rfl rfl (by have q := Ws.up_bd hy1.1 hI.1 hI.2.1 l[k] l[((k : Int) - wd).toNat]; simp only [Ws.up] at q; omega)) rfl rfl rfl ?_
      refine o_mapUpdate (i := 0) (K := kInt) (ve := (fun z : Int => .int .i64 z)) (m := (AL.set m (l[k]) (((AL.get m (l[k])).getD 0) + 1))) (k := l[((k : Int) - wd).toNat]) (v := (((AL.get (AL.set m (l[k]) (((AL.get m (l[k])).getD 0) + 1)) (l[((k : Int) - wd).toNat])).getD 0) - 1)) rfl rfl rfl rfl Try.underlying110 Try.underlying3 ?_
      refine o_nil ?_
      refine q_then ?_
      refine c_seq ?_
      refine c_region ?_
      refine o_pure (p_move (v := .map (some B1)) rfl) rfl rfl rfl ?_
      refine o_pure (p_move (v := .int .i64 (l[((k : Int) - wd).toNat])) rfl) rfl rfl rfl ?_
      refine o_pure (p_lookup1 (i := 0) (K := kInt) (ve := (fun z : Int => .int .i64 z)) (m := (AL.set (AL.set m (l[k]) (((AL.get m (l[k])).getD 0) + 1)) (l[((k : Int) - wd).toNat]) (((AL.get (AL.set m (l[k]) (((AL.get m (l[k])).getD 0) + 1)) (l[((k : Int) - wd).toNat])).getD 0) - 1))) (k := l[((k : Int) - wd).toNat]) (dflt := 0) rfl rfl rfl Try.underlying110 Try.underlying3 zv3) rfl rfl rfl ?_
      refine o_pure (p_eq (p := ((AL.get (AL.set (AL.set m (l[k]) (((AL.get m (l[k])).getD 0) + 1)) (l[((k : Int) - wd).toNat]) (((AL.get (AL.set m (l[k]) (((AL.get m (l[k])).getD 0) + 1)) (l[((k : Int) - wd).toNat])).getD 0) - 1)) (l[((k : Int) - wd).toNat])).getD 0)) (q := 0) rfl rfl) rfl rfl rfl ?_
      refine o_nil ?_
      refine q_then ?_
      refine c_cond (b := (((AL.get (AL.set (AL.set m (l[k]) (((AL.get m (l[k])).getD 0) + 1)) (l[((k : Int) - wd).toNat]) (((AL.get (AL.set m (l[k]) (((AL.get m (l[k])).getD 0) + 1)) (l[((k : Int) - wd).toNat])).getD 0) - 1)) (l[((k : Int) - wd).toNat])).getD 0) == 0)) rfl (fun hc5 => ?_) (fun hc5 => ?_)
      · simp only [beq_iff_eq] at hc5
        refine c_region ?_
        refine o_pure (p_move (v := .map (some B1)) rfl) rfl rfl rfl ?_
        refine o_pure (p_move (v := .int .i64 (l[((k : Int) - wd).toNat])) rfl) rfl rfl rfl ?_
        refine o_delete (i := 0) (K := kInt) (ve := (fun z : Int => .int .i64 z)) (m := (AL.set (AL.set m (l[k]) (((AL.get m (l[k])).getD 0) + 1)) (l[((k : Int) - wd).toNat]) (((AL.get (AL.set m (l[k]) (((AL.get m (l[k])).getD 0) + 1)) (l[((k : Int) - wd).toNat])).getD 0) - 1))) (k := l[((k : Int) - wd).toNat]) rfl rfl rfl rfl Try.underlying110 Try.underlying3 ?_
        refine o_nil ?_
        refine q_then ?_
        refine c_seq ?_
        refine c_regionY ?_
        refine o_pure (p_move (v := .func (.yield l_) #[] #[]) rfl) rfl rfl rfl ?_
        refine o_pure (p_move (v := .int .i64 (k : Int)) rfl) rfl rfl rfl ?_
        refine o_pure (p_move (v := .map (some B1)) rfl) rfl rfl rfl ?_
        refine o_pick (H' := [outer w0 [e0], e, mapE kInt (fun z : Int => .int .i64 z) B1 (AL.del (AL.set (AL.set m (l[k]) (((AL.get m (l[k])).getD 0) + 1)) (l[((k : Int) - wd).toNat]) (((AL.get (AL.set m (l[k]) (((AL.get m (l[k])).getD 0) + 1)) (l[((k : Int) - wd).toNat])).getD 0) - 1)) (l[((k : Int) - wd).toNat]))]) [1, 2, 0] (by decide) rfl ?_
        refine o_asH (congrArg (fun z => [outer w0 [e0], e, mapE kInt (fun z : Int => .int .i64 z) B1 z]) (show (AL.del (AL.set (AL.set m (l[k]) (((AL.get m (l[k])).getD 0) + 1)) (l[((k : Int) - wd).toNat]) (((AL.get (AL.set m (l[k]) (((AL.get m (l[k])).getD 0) + 1)) (l[((k : Int) - wd).toNat])).getD 0) - 1)) (l[((k : Int) - wd).toNat])) = Ws.mapAt l wd (k + 1) by first | exact Ws.at2 hI.1 (by omega) (by omega) (by omega) (by assumption) | exact Ws.at3 hI.1 (by omega) (by omega) (by omega) (by assumption) | exact Ws.at1 hI.1 (by omega) (by omega))) ?_
        refine o_yield (l := l_) (vs := [.int .i64 (k : Int), .map (some B1)]) (φ := φ (k + 1)) (ψ := ψ) rfl rfl (fun W hW => Y B1 k e W (by omega) hI.2.2 hW) rfl (fun e_6 he7 => ?_) (fun e_6 he7 => ?_)
        · have hend := he7
          refine o_pure (p_not (b := true) rfl) rfl rfl rfl ?_
          refine o_nil ?_
          refine q_then ?_
          refine c_false rfl ?_
          refine c_skip ?_
          refine q_block_normal (q_then ?_)
          refine c_region ?_
          refine o_pure (p_addb (p := (k : Int)) (q := 1) rfl rfl (by omega)) rfl rfl rfl ?_
          refine o_pure (p_move (v := .int .i64 ((k : Int) + 1)) rfl) rfl rfl rfl ?_
          refine o_nil ?_
          refine q_round hK2 (k + 1, (Ws.mapAt l wd (k + 1)), e_6) ?_ ?_ ?_ ?_
          · clear hK2
            exact ⟨rfl, by omega, hend⟩
          · (try dsimp only); omega
          · exact Sub.cons rfl (Sub.cons rfl (Sub.cons rfl (Sub.cons rfl (Sub.cons rfl (Sub.cons rfl (Sub.cons rfl (Sub.nil _)))))))
          · exact fun _ hw => HeapIs.pick hw [2, 0, 1] (by decide) rfl
        · have hend := he7
          refine o_pure (p_not (b := false) rfl) rfl rfl rfl ?_
          refine o_nil ?_
          refine q_then ?_
          refine c_true rfl ?_
          refine c_ret ?_
          refine q_block_ret (q_then_ret (q_then_ret (q_block_ret ?_)))
          refine q_endI (e := e_6) (rt0 rfl) ?_ (fun w hw => hw.pick (H' := [outer w0 [e0], e_6]) [0, 1] (by decide) rfl)
          first | exact .inr hend | exact .inl (it_fin hI.2.2 (by omega))
      · simp only [beq_eq_false_iff_ne, ne_eq] at hc5
        refine c_skip ?_
        refine q_then ?_
        refine c_seq ?_
        refine c_regionY ?_
        refine o_pure (p_move (v := .func (.yield l_) #[] #[]) rfl) rfl rfl rfl ?_
        refine o_pure (p_move (v := .int .i64 (k : Int)) rfl) rfl rfl rfl ?_
        refine o_pure (p_move (v := .map (some B1)) rfl) rfl rfl rfl ?_
        refine o_pick (H' := [outer w0 [e0], e, mapE kInt (fun z : Int => .int .i64 z) B1 (AL.set (AL.set m (l[k]) (((AL.get m (l[k])).getD 0) + 1)) (l[((k : Int) - wd).toNat]) (((AL.get (AL.set m (l[k]) (((AL.get m (l[k])).getD 0) + 1)) (l[((k : Int) - wd).toNat])).getD 0) - 1))]) [1, 2, 0] (by decide) rfl ?_
        refine o_asH (congrArg (fun z => [outer w0 [e0], e, mapE kInt (fun z : Int => .int .i64 z) B1 z]) (show (AL.set (AL.set m (l[k]) (((AL.get m (l[k])).getD 0) + 1)) (l[((k : Int) - wd).toNat]) (((AL.get (AL.set m (l[k]) (((AL.get m (l[k])).getD 0) + 1)) (l[((k : Int) - wd).toNat])).getD 0) - 1)) = Ws.mapAt l wd (k + 1) by first | exact Ws.at2 hI.1 (by omega) (by omega) (by omega) (by assumption) | exact Ws.at3 hI.1 (by omega) (by omega) (by omega) (by assumption) | exact Ws.at1 hI.1 (by omega) (by omega))) ?_
        refine o_yield (l := l_) (vs := [.int .i64 (k : Int), .map (some B1)]) (φ := φ (k + 1)) (ψ := ψ) rfl rfl (fun W hW => Y B1 k e W (by omega) hI.2.2 hW) rfl (fun e_8 he9 => ?_) (fun e_8 he9 => ?_)
        · have hend := he9
          refine o_pure (p_not (b := true) rfl) rfl rfl rfl ?_
          refine o_nil ?_
          refine q_then ?_
          refine c_false rfl ?_
          refine c_skip ?_
          refine q_block_normal (q_then ?_)
          refine c_region ?_
          refine o_pure (p_addb (p := (k : Int)) (q := 1) rfl rfl (by omega)) rfl rfl rfl ?_
          refine o_pure (p_move (v := .int .i64 ((k : Int) + 1)) rfl) rfl rfl rfl ?_
          refine o_nil ?_
          refine q_round hK2 (k + 1, (Ws.mapAt l wd (k + 1)), e_8) ?_ ?_ ?_ ?_
          · clear hK2
            exact ⟨rfl, by omega, hend⟩
          · (try dsimp only); omega
          · exact Sub.cons rfl (Sub.cons rfl (Sub.cons rfl (Sub.cons rfl (Sub.cons rfl (Sub.cons rfl (Sub.cons rfl (Sub.nil _)))))))
          · exact fun _ hw => HeapIs.pick hw [2, 0, 1] (by decide) rfl
        · have hend := he9
          refine o_pure (p_not (b := false) rfl) rfl rfl rfl ?_
          refine o_nil ?_
          refine q_then ?_
          refine c_true rfl ?_
          refine c_ret ?_
          refine q_block_ret (q_then_ret (q_then_ret (q_block_ret ?_)))
          refine q_endI (e := e_8) (rt0 rfl) ?_ (fun w hw => hw.pick (H' := [outer w0 [e0], e_8]) [0, 1] (by decide) rfl)
          first | exact .inr hend | exact .inl (it_fin hI.2.2 (by omega))
    · simp only [decide_eq_false_iff_not, Int.not_le] at hc4
      refine c_skip ?_
      refine q_then ?_
      refine c_seq ?_
      refine c_regionY ?_
      refine o_pure (p_move (v := .func (.yield l_) #[] #[]) rfl) rfl rfl rfl ?_
      refine o_pure (p_move (v := .int .i64 (k : Int)) rfl) rfl rfl rfl ?_
      refine o_pure (p_move (v := .map (some B1)) rfl) rfl rfl rfl ?_
      refine o_pick (H' := [outer w0 [e0], e, mapE kInt (fun z : Int => .int .i64 z) B1 (AL.set m (l[k]) (((AL.get m (l[k])).getD 0) + 1))]) [1, 2, 0] (by decide) rfl ?_
      refine o_asH (congrArg (fun z => [outer w0 [e0], e, mapE kInt (fun z : Int => .int .i64 z) B1 z]) (show (AL.set m (l[k]) (((AL.get m (l[k])).getD 0) + 1)) = Ws.mapAt l wd (k + 1) by first | exact Ws.at2 hI.1 (by omega) (by omega) (by omega) (by assumption) | exact Ws.at3 hI.1 (by omega) (by omega) (by omega) (by assumption) | exact Ws.at1 hI.1 (by omega) (by omega))) ?_
      refine o_yield (l := l_) (vs := [.int .i64 (k : Int), .map (some B1)]) (φ := φ (k + 1)) (ψ := ψ) rfl rfl (fun W hW => Y B1 k e W (by omega) hI.2.2 hW) rfl (fun e_10 he11 => ?_) (fun e_10 he11 => ?_)
      · have hend := he11
        refine o_pure (p_not (b := true) rfl) rfl rfl rfl ?_
        refine o_nil ?_
        refine q_then ?_
        refine c_false rfl ?_
        refine c_skip ?_
        refine q_block_normal (q_then ?_)
        refine c_region ?_
        refine o_pure (p_addb (p := (k : Int)) (q := 1) rfl rfl (by omega)) rfl rfl rfl ?_
        refine o_pure (p_move (v := .int .i64 ((k : Int) + 1)) rfl) rfl rfl rfl ?_
        refine o_nil ?_
        refine q_round hK2 (k + 1, (Ws.mapAt l wd (k + 1)), e_10) ?_ ?_ ?_ ?_
        · clear hK2
          exact ⟨rfl, by omega, hend⟩
        · (try dsimp only); omega
        · exact Sub.cons rfl (Sub.cons rfl (Sub.cons rfl (Sub.cons rfl (Sub.cons rfl (Sub.cons rfl (Sub.cons rfl (Sub.nil _)))))))
        · exact fun _ hw => HeapIs.pick hw [2, 0, 1] (by decide) rfl
      · have hend := he11
        refine o_pure (p_not (b := false) rfl) rfl rfl rfl ?_
        refine o_nil ?_
        refine q_then ?_
        refine c_true rfl ?_
        refine c_ret ?_
        refine q_block_ret (q_then_ret (q_then_ret (q_block_ret ?_)))
        refine q_endI (e := e_10) (rt0 rfl) ?_ (fun w hw => hw.pick (H' := [outer w0 [e0], e_10]) [0, 1] (by decide) rfl)
        first | exact .inr hend | exact .inl (it_fin hI.2.2 (by omega))
  · simp only [decide_eq_false_iff_not, Int.not_lt] at hc3
    refine c_exit ?_
    refine q_then_exit (q_then_exit (q_block_exit ?_))
    refine q_endI (e := e) (rt0 rfl) ?_ (fun w hw => hw.pick (H' := [outer w0 [e0], e]) [1, 2] (by decide) rfl)
    first | exact .inr hend | exact .inl (it_fin hI.2.2 (by omega))

set_option maxHeartbeats 8000000 in
set_option maxRecDepth 100000 in
theorem wsets_ok (l : List Int) (al : Option Addr) (cl : Nat) (wd : Int) : FnX Try.prog 75 [.slice al l.length cl, .int .i64 wd] [] (fun _ => True) (Nat × Nat) (fun p => .func (.func 100) #[] #[.pointer (some ⟨p.1, 0, none⟩), .pointer (some ⟨p.2, 0, none⟩)]) (fun p => [box p.1 [.slice al l.length cl] 45, box p.2 [.int .i64 wd] 3]) := by
  refine fnX (nt := 6) (F0 := [(0, .slice al l.length cl), (1, .int .i64 wd)]) Try.func75 rfl Try.ntmps75 rfl rfl (fun w0 hpre => ?_)
  refine c_seq ?_
  refine c_region ?_
  refine o_box (v := .slice al l.length cl) rfl rfl (fun B1 => ?_)
  refine o_box (v := .int .i64 wd) rfl rfl (fun B2 => ?_)
  refine o_pure (p_assign (v := .nilFunc) rfl) rfl rfl rfl ?_
  refine o_nil ?_
  refine q_then ?_
  refine c_seq ?_
  refine c_region ?_
  refine o_pure (p_makeFunc (vs := [.pointer (some ⟨B1, 0, none⟩), .pointer (some ⟨B2, 0, none⟩)]) rfl) rfl rfl rfl ?_
  refine o_pure (p_assign (v := .func (.func 100) #[] #[.pointer (some ⟨B1, 0, none⟩), .pointer (some ⟨B2, 0, none⟩)]) rfl) rfl rfl rfl ?_
  refine o_nil ?_
  refine q_then ?_
  refine c_ret ?_
  refine q_endX (p := (B1, B2)) (rt1 rfl (r_tmp rfl)) rfl (fun w hw => ?_)
  exact hw.pick (H' := [outer w0 [], box B1 [.slice al l.length cl] 45, box B2 [.int .i64 wd] 3]) [2, 1, 0] (by decide) rfl

set_option maxHeartbeats 8000000 in
set_option maxRecDepth 100000 in
theorem wfaults_ok (l : List Int) (al : Option Addr) (cl : Nat) (wd : Int) : Fn0 Try.prog 42 [.slice al l.length cl, .int .i64 wd] (fun w => Rd tInt w al cl l) (.tuple #[.int .i64 (Ws.faults l wd), .int .i64 (Ws.check l wd)]) := by
  refine fn0R (nt := 42) (F0 := [(0, .slice al l.length cl), (1, .int .i64 wd)]) Try.func42 rfl Try.ntmps42 rfl rfl (fun w0 hpre => ?_)
  have hl := hpre
  have hlhl := hl.2.1
  refine c_seq ?_
  refine c_region ?_
  refine o_box (v := .slice al l.length cl) rfl rfl (fun B1 => ?_)
  refine o_pure (p_assign (v := .int .i64 0) rfl) rfl rfl rfl ?_
  refine o_pure (p_assign (v := .int .i64 0) rfl) rfl rfl rfl ?_
  refine o_nil ?_
  refine q_then ?_
  refine c_seq ?_
  refine c_seq ?_
  refine c_region ?_
  refine o_pure (p_load (i := 0) (v := .slice al l.length cl) rfl rfl sh45 rfl) rfl rfl rfl ?_
  refine o_pure (p_move (v := .int .i64 wd) rfl) rfl rfl rfl ?_
  refine o_call0 (v := .int .i64 (Ws.check l wd)) rfl (wcheck_ok l al cl wd) hf78 (fun w hw => (rd_base (i := 1) rfl hl) w hw) rfl ?_
  refine o_pure (p_assign (v := .int .i64 (Ws.check l wd)) rfl) rfl rfl rfl ?_
  refine o_nil ?_
  refine q_then ?_
  refine c_seq ?_
  refine c_region ?_
  refine o_pure (p_move (v := .int .i64 (Ws.check l wd)) rfl) rfl rfl rfl ?_
  refine o_pure (p_ne (p := (Ws.check l wd)) (q := 0) rfl rfl) rfl rfl rfl ?_
  refine o_nil ?_
  refine q_then ?_
  refine c_cond (b := ((Ws.check l wd) != 0)) rfl (fun hc2 => ?_) (fun hc2 => ?_)
  · simp only [bne_iff_ne, ne_eq] at hc2
    refine c_seq ?_
    refine c_region ?_
    refine o_pure (p_move (v := .int .i64 (Ws.check l wd)) rfl) rfl rfl rfl ?_
    refine o_pure (p_assign (v := .int .i64 0) rfl) rfl rfl rfl ?_
    refine o_pure (p_assign (v := .int .i64 (Ws.check l wd)) rfl) rfl rfl rfl ?_
    refine o_nil ?_
    refine q_then ?_
    refine c_ret ?_
    refine q_then_ret ?_
    refine q_marks0 ?_
    have hr0 : (0 : Int) = (Ws.faults l wd) := by
      first | exact Ws.fl_end hI (Nat.le_refl _) hck | exact hck.symm | exact Ws.fl_bad (by assumption) | rfl
    refine q_end0 (v := .tuple #[.int .i64 0, .int .i64 (Ws.check l wd)]) (rt2 rfl (r_tmp rfl) (r_tmp rfl)) (i := 1) rfl ?_
    exact (by have hcc := congrArg (fun (y0 : Int) => (.tuple #[.int .i64 y0, .int .i64 (Ws.check l wd)] : Value)) hr0; exact hcc)
  · simp only [bne_eq_false_iff_eq] at hc2
    have hck := hc2
    have hok := Ws.chk_ok hc2
    have hwb := Ws.okWin_bd hok.2.1
    refine c_skip ?_
    refine q_then ?_
    refine c_seq ?_
    refine c_region ?_
    refine o_pure (p_load (i := 0) (v := .slice al l.length cl) rfl rfl sh45 rfl) rfl rfl rfl ?_
    refine o_pure (p_len_slice (len := l.length) rfl rfl Try.underlying45) rfl rfl rfl ?_
    refine o_pure (p_min (p := 1) (q := (l.length : Int)) rfl rfl) rfl rfl rfl ?_
    refine o_alloc ze3 rfl (fun B3 => ?_)
    refine o_store (i := 0) (v := .int .i64 (min 1 (l.length : Int))) (cs' := [.int .i64 (min 1 (l.length : Int))]) rfl rfl rfl sz3 rfl rfl rfl ?_
    refine o_nil ?_
    refine q_then ?_
    refine c_seq ?_
    refine c_seq ?_
    refine c_region ?_
    refine o_pure (p_load (i := 1) (v := .slice al l.length cl) rfl rfl sh45 rfl) rfl rfl rfl ?_
    refine o_pure (p_move (v := .int .i64 wd) rfl) rfl rfl rfl ?_
    refine o_callX (pre := []) (R := [box B3 [.int .i64 (min 1 (l.length : Int))] 3, box B1 [.slice al l.length cl] 45, base w0]) rfl (wsets_ok l al cl wd) hf75 rfl (fun _ _ => trivial) rfl ?_
    rintro ⟨B4, B5⟩
    refine o_asH (H' := [box B4 [.slice al l.length cl] 45, box B5 [.int .i64 wd] 3, box B3 [.int .i64 (min 1 (l.length : Int))] 3, box B1 [.slice al l.length cl] 45, base w0]) rfl ?_
    refine o_nil ?_
    refine q_then ?_
    refine c_block ?_
    refine c_rangeFunc (f := 100) (caps := [.pointer (some ⟨B4, 0, none⟩), .pointer (some ⟨B5, 0, none⟩)]) (Pr := (fun e w => ((box B4 [.slice al l.length cl] 45).A w ∧ (outer w [e]).S B4) ∧ SlR tInt (outer w [e]).S w al cl l ∧ ((box B5 [.int .i64 wd] 3).A w ∧ (outer w [e]).S B5))) (X := Nat) (encs := (fun x k => [.int .i64 (k : Int), .map (some x)])) (E := (fun x k => [mapE kInt (fun z : Int => .int .i64 z) x (Ws.mapAt l wd (k + 1))])) (N := l.length) rfl hf100 (sets1_ok l al cl B4 wd B5 (by omega)) (fun _ _ => rfl) (by decide) (St := Int)
      (fun n => [box B3 [.int .i64 n] 3])
      (fun k n => n = Ws.fc l wd (min l.length (k + 1)))
      (fun c n => False)
      [box B4 [.slice al l.length cl] 45, box B5 [.int .i64 wd] 3, box B1 [.slice al l.length cl] 45, base w0]
      (min 1 (l.length : Int)) ?_ ?_ ?_ ?_ ?_ ?_
    · exact Ws.fl_start l wd
    · exact fun w hw => hw.pick (H' := [box B3 [.int .i64 (min 1 (l.length : Int))] 3, box B4 [.slice al l.length cl] 45, box B5 [.int .i64 wd] 3, box B1 [.slice al l.length cl] 45, base w0]) [2, 0, 1, 3, 4] (by decide) rfl
    · intro D e0 W1 hW1
      exact ⟨boxX (i := 2) (js := [0]) rfl (by decide) rfl W1 hW1, (rdX (i := 5) (js := [0]) rfl (by decide) rfl (fun _ hA => slR_base hl hA)) W1 hW1, boxX (i := 3) (js := [0]) rfl (by decide) rfl W1 hW1⟩
    · rintro l_ rc D e0 W1 hW1 x_ k n hk hI
      have hml : min l.length (k + 1) ≤ l.length := Nat.min_le_left _ _
      have hfb := Ws.fc_bd l wd (min l.length (k + 1))
      rw [← hI] at hfb
      have hor0_1 : SlR tInt (outer W1 [e0]).S W1 al cl l := (rdX (i := 5) (js := [0]) rfl (by decide) rfl (fun _ hA => slR_base hl hA)) W1 hW1
      have hlhor0_1 := hor0_1.2.1
      have hobr0_B1 := boxX (i := 4) (B := B1) (cs := [.slice al l.length cl]) (U := 45) (js := [0]) (pre := [e0]) rfl (by decide) rfl W1 hW1
      refine c_seq ?_
      refine c_region ?_
      refine o_pure (p_assign (v := .int .i64 (k : Int)) rfl) rfl rfl rfl ?_
      refine o_nil ?_
      refine q_then ?_
      refine c_region ?_
      refine o_pure (p_assign (v := .map (some x_)) rfl) rfl rfl rfl ?_
      refine o_nil ?_
      refine q_begin (i := 1) rfl ?_
      refine c_block ?_
      refine c_seq ?_
      refine c_region ?_
      refine o_pure (p_move (v := .int .i64 (k : Int)) rfl) rfl rfl rfl ?_
      refine o_pure (p_addb (p := (k : Int)) (q := 1) rfl rfl (by omega)) rfl rfl rfl ?_
      refine o_pure (p_loadR (v := .slice al l.length cl) rfl (rbox_outer (i := 0) rfl hobr0_B1) sh45 rfl) rfl rfl rfl ?_
      refine o_pure (p_len_slice (len := l.length) rfl rfl Try.underlying45) rfl rfl rfl ?_
      refine o_pure (p_lt (p := ((k : Int) + 1)) (q := (l.length : Int)) rfl rfl) rfl rfl rfl ?_
      refine o_pure (p_move (v := .bool (decide (((k : Int) + 1) < (l.length : Int)))) rfl) rfl rfl rfl ?_
      refine o_and (p := 38) 9 (((AL.get (Ws.mapAt l wd (k + 1)) (l.getD (((k : Int) + 1).toNat) default)).getD 0) == 0) ?_ ?_ ?_
      · intro hb6 hk
        simp only [decide_eq_true_eq] at hb6
        refine o_unguard 29 rfl rfl ?_
        refine o_pure (p_move (v := .map (some x_)) rfl) rfl rfl rfl ?_
        refine o_unguard 29 rfl rfl ?_
        refine o_pure (p_loadR (v := .slice al l.length cl) rfl (rbox_outer (i := 0) rfl hobr0_B1) sh45 rfl) rfl rfl rfl ?_
        refine o_unguard 29 rfl rfl ?_
        refine o_pure (p_move (v := .int .i64 (k : Int)) rfl) rfl rfl rfl ?_
        refine o_unguard 29 rfl rfl ?_
        refine o_pure (p_addb (p := (k : Int)) (q := 1) rfl rfl (by omega)) rfl rfl rfl ?_
        refine o_unguard 29 rfl rfl ?_
        refine o_pure (p_indexAddr (L := l) (T := tInt) (i := ((k : Int) + 1)) rfl rfl (rd_outer (i := 0) rfl hor0_1) Try.underlying45 sz3 (by omega) (by omega)) rfl rfl rfl ?_
        refine o_unguard 29 rfl rfl ?_
        refine o_pure (p_loadE1 (i := ((k : Int) + 1).toNat) (T := tInt) (L := l) (v := .int .i64 (l.getD (((k : Int) + 1).toNat) default)) rfl (rd_outer (i := 0) rfl hor0_1) (by first | assumption | omega) sh3 (congrArg tInt.enc (getd_at (by first | assumption | omega) default))) rfl rfl rfl ?_
        refine o_unguard 29 rfl rfl ?_
        refine o_pure (p_lookup1 (i := 3) (K := kInt) (ve := (fun z : Int => .int .i64 z)) (m := (Ws.mapAt l wd (k + 1))) (k := (l.getD (((k : Int) + 1).toNat) default)) (dflt := 0) rfl rfl rfl Try.underlying110 Try.underlying3 zv3) rfl rfl rfl ?_
        refine o_unguard 29 rfl rfl ?_
        refine o_pure (p_eq (p := ((AL.get (Ws.mapAt l wd (k + 1)) (l.getD (((k : Int) + 1).toNat) default)).getD 0)) (q := 0) rfl rfl) rfl rfl rfl ?_
        refine o_pure (p_pick_true (u := .bool (((AL.get (Ws.mapAt l wd (k + 1)) (l.getD (((k : Int) + 1).toNat) default)).getD 0) == 0)) rfl rfl) rfl rfl rfl ?_
        exact o_sub (Sub.cons rfl (Sub.skip rfl (Sub.skip rfl (Sub.skip rfl (Sub.skip rfl (Sub.skip rfl (Sub.skip rfl (Sub.skip rfl (Sub.skip rfl (Sub.skip rfl (Sub.skip rfl (Sub.refl _)))))))))))) hk
      · intro hb6 hk
        refine o_guard_no rfl 29 rfl rfl rfl rfl rfl ?_
        refine o_guard_no rfl 29 rfl rfl rfl rfl rfl ?_
        refine o_guard_no rfl 29 rfl rfl rfl rfl rfl ?_
        refine o_guard_no rfl 29 rfl rfl rfl rfl rfl ?_
        refine o_guard_no rfl 29 rfl rfl rfl rfl rfl ?_
        refine o_guard_no rfl 29 rfl rfl rfl rfl rfl ?_
        refine o_guard_no rfl 29 rfl rfl rfl rfl rfl ?_
        refine o_guard_no rfl 29 rfl rfl rfl rfl rfl ?_
        refine o_pure (p_pick_false (v := .bool false) rfl rfl) rfl rfl rfl ?_
        exact o_sub (Sub.cons rfl (Sub.skip rfl (Sub.skip rfl (Sub.skip rfl (Sub.skip rfl (Sub.skip rfl (Sub.skip rfl (Sub.skip rfl (Sub.skip rfl (Sub.skip rfl (Sub.skip rfl (Sub.refl _)))))))))))) hk
      refine o_nil ?_
      refine q_then ?_
      refine c_cond (b := (decide (((k : Int) + 1) < (l.length : Int)) && (((AL.get (Ws.mapAt l wd (k + 1)) (l.getD (((k : Int) + 1).toNat) default)).getD 0) == 0))) rfl (fun hc7 => ?_) (fun hc7 => ?_)
      · simp only [Bool.and_eq_true, decide_eq_true_eq, beq_iff_eq] at hc7
        have hcc := hc7
        refine c_region ?_
        refine o_pure (p_load (i := 2) (v := .int .i64 n) rfl rfl sh3 rfl) rfl rfl rfl ?_
        refine o_pure (p_addb (p := n) (q := 1) rfl rfl (by omega)) rfl rfl rfl ?_
        refine o_store (i := 2) (v := .int .i64 (n + 1)) (cs' := [.int .i64 (n + 1)]) rfl rfl rfl sz3 rfl rfl rfl ?_
        refine o_nil ?_
        refine q_block_normal ?_
        refine q_next (n + 1) ?_ (fun w hw => hw.pick (H' := [outer W1 [e0], loopE l_ (recd rc .busy none), box B3 [.int .i64 (n + 1)] 3, mapE kInt (fun z : Int => .int .i64 z) x_ (Ws.mapAt l wd (k + 1))]) [0, 1, 2, 3] (by decide) rfl)
        first | exact Ws.fl_hit2 hwb.1 hI (by omega) hcc.2 | exact (by rcases Nat.lt_or_ge (k + 1) l.length with h | h; exact Ws.fl_miss2 hwb.1 hI h (hcc.resolve_left (by omega)); exact Ws.fl_last hI h)
      · simp only [Bool.and_eq_false_iff, decide_eq_false_iff_not, Int.not_lt, beq_eq_false_iff_ne, ne_eq] at hc7
        have hcc := hc7
        refine c_skip ?_
        refine q_block_normal ?_
        refine q_next n ?_ (fun w hw => hw.pick (H' := [outer W1 [e0], loopE l_ (recd rc .busy none), box B3 [.int .i64 n] 3, mapE kInt (fun z : Int => .int .i64 z) x_ (Ws.mapAt l wd (k + 1))]) [0, 1, 2, 3] (by decide) rfl)
        first | exact Ws.fl_hit2 hwb.1 hI (by omega) hcc.2 | exact (by rcases Nat.lt_or_ge (k + 1) l.length with h | h; exact Ws.fl_miss2 hwb.1 hI h (hcc.resolve_left (by omega)); exact Ws.fl_last hI h)
    · rintro D n hI
      show SQ _ 42 w0 _ _ _ [defE D, box B3 [.int .i64 n] 3, box B4 [.slice al l.length cl] 45, box B5 [.int .i64 wd] 3, box B1 [.slice al l.length cl] 45, base w0]
      refine q_block_normal (q_then ?_)
      refine c_seq ?_
      refine c_region ?_
      refine o_pure (p_load (i := 1) (v := .int .i64 n) rfl rfl sh3 rfl) rfl rfl rfl ?_
      refine o_pure (p_assign (v := .int .i64 n) rfl) rfl rfl rfl ?_
      refine o_pure (p_assign (v := .int .i64 0) rfl) rfl rfl rfl ?_
      refine o_nil ?_
      refine q_then ?_
      refine c_ret ?_
      refine q_marks (i := 0) rfl ?_
      show SQ _ 42 w0 _ _ _ [box B3 [.int .i64 n] 3, box B4 [.slice al l.length cl] 45, box B5 [.int .i64 wd] 3, box B1 [.slice al l.length cl] 45, base w0]
      refine q_marks0 ?_
      have hr0 : (n : Int) = (Ws.faults l wd) := by
        first | exact Ws.fl_end hI (Nat.le_refl _) hck | exact hck.symm | exact Ws.fl_bad (by assumption) | rfl
      have hr1 : (0 : Int) = (Ws.check l wd) := by
        first | exact Ws.fl_end hI (Nat.le_refl _) hck | exact hck.symm | exact Ws.fl_bad (by assumption) | rfl
      refine q_end0 (v := .tuple #[.int .i64 n, .int .i64 0]) (rt2 rfl (r_tmp rfl) (r_tmp rfl)) (i := 4) rfl ?_
      exact (by have hcc := congr (congrArg (fun (y0 : Int) (y1 : Int) => (.tuple #[.int .i64 y0, .int .i64 y1] : Value)) hr0) hr1; exact hcc)
    · intro D c s h; exact h.elim
end Go.Proofs.Ythecfjipaepcgaa
