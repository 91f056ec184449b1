/- The walks, printed by a program from the translation and a specification. -/
import Derived.Test.YthecfjipaepcgaaWkF
import Derived.Test.YthecfjipaepcgaaWsLaw5
import Derived.Test.YthecfjipaepcgaaExLaw
import Derived.Test.YthecfjipaepcgaaWkW5
namespace Go.Proofs.Ythecfjipaepcgaa
open Go.Sx Go.RowKit
set_option maxHeartbeats 8000000 in
set_option maxRecDepth 100000 in
theorem workErr_ok (l : List Int) (al : Option Addr) (cl : Nat) (wd : Int) : Fn0 Try.prog 44 [.slice al l.length cl, .int .i64 wd] (fun w => Rd tInt w al cl l) (.int .i64 (Ws.check l wd)) := by
  refine fn0 (nt := 16) (F0 := [(0, .slice al l.length cl), (1, .int .i64 wd)]) Try.func44 rfl Try.ntmps44 rfl rfl (fun w0 hpre => ?_)
  have hl := hpre
  have hlhl := hl.2.1
  refine c_seq ?_
  refine c_region ?_
  refine o_pure (p_assign (v := .int .i64 0) rfl) rfl rfl rfl ?_
  refine o_nil ?_
  refine q_then ?_
  refine c_seq ?_
  refine c_region ?_
  refine o_pure (p_move (v := .slice al l.length cl) rfl) rfl rfl rfl ?_
  refine o_call0 (v := .int .i64 (Lru.trace l)) rfl (traceCheck_ok l al cl) hf81 (fun w hw => (rd_base (i := 0) rfl hl) w hw) rfl ?_
  refine o_pure (p_assign (v := .int .i64 (Lru.trace l)) rfl) rfl rfl rfl ?_
  refine o_nil ?_
  refine q_then ?_
  refine c_seq ?_
  refine c_seq ?_
  refine c_region ?_
  refine o_pure (p_move (v := .int .i64 (Lru.trace l)) rfl) rfl rfl rfl ?_
  refine o_pure (p_eq (p := (Lru.trace l)) (q := 0) rfl rfl) rfl rfl rfl ?_
  refine o_pure (p_move (v := .bool ((Lru.trace l) == 0)) rfl) rfl rfl rfl ?_
  refine o_and (p := 14) 4 (!(Ref.between wd (1 : Int) (200 : Int))) ?_ ?_ ?_
  · intro hb1 hk
    simp only [beq_iff_eq] at hb1
    refine o_unguard 10 rfl rfl ?_
    refine o_pure (p_move (v := .int .i64 wd) rfl) rfl rfl rfl ?_
    refine o_unguard 10 rfl rfl ?_
    refine o_call0 (v := .bool (Ref.between wd (1 : Int) (200 : Int))) rfl (between_ok wd (1 : Int) (200 : Int)) hf61 (fun _ _ => trivial) rfl ?_
    refine o_unguard 10 rfl rfl ?_
    refine o_pure (p_not (b := (Ref.between wd (1 : Int) (200 : Int))) rfl) rfl rfl rfl ?_
    refine o_pure (p_pick_true (u := .bool (!(Ref.between wd (1 : Int) (200 : Int)))) rfl rfl) rfl rfl rfl ?_
    exact o_sub (Sub.cons rfl (Sub.skip rfl (Sub.skip rfl (Sub.skip rfl (Sub.skip rfl (Sub.skip rfl (Sub.refl _))))))) hk
  · intro hb1 hk
    refine o_guard_no rfl 10 rfl rfl rfl rfl rfl ?_
    refine o_guard_no rfl 10 rfl rfl rfl rfl rfl ?_
    refine o_guard_no rfl 10 rfl rfl rfl rfl rfl ?_
    refine o_pure (p_pick_false (v := .bool false) rfl rfl) rfl rfl rfl ?_
    exact o_sub (Sub.cons rfl (Sub.skip rfl (Sub.skip rfl (Sub.skip rfl (Sub.skip rfl (Sub.skip rfl (Sub.refl _))))))) hk
  refine o_nil ?_
  refine q_then ?_
  refine c_cond (b := (((Lru.trace l) == 0) && (!(Ref.between wd (1 : Int) (200 : Int))))) rfl (fun hc2 => ?_) (fun hc2 => ?_)
  · simp only [Bool.and_eq_true, beq_iff_eq, Bool.not_eq_true'] at hc2
    have hcc := hc2
    refine c_region ?_
    refine o_pure (p_assign (v := .int .i64 3) rfl) rfl rfl rfl ?_
    refine o_nil ?_
    refine q_then ?_
    refine c_seq ?_
    refine c_region ?_
    refine o_pure (p_move (v := .int .i64 3) rfl) rfl rfl rfl ?_
    refine o_pure (p_assign (v := .int .i64 3) rfl) rfl rfl rfl ?_
    refine o_nil ?_
    refine q_then ?_
    refine c_ret ?_
    have hr0 : (3 : Int) = (Ws.check l wd) := by
      have hbt : Ref.between wd 1 200 = Ws.okWin wd := rfl
      simp only [hbt] at *
      rcases Ws.chk_cases l wd with ⟨h1, h2⟩ | ⟨h1, h2, h3⟩ | ⟨h1, h2, h3⟩ <;> simp_all
    refine q_end0 (v := .int .i64 3) (rt1 rfl (r_tmp rfl)) (i := 0) rfl ?_
    exact (by have hcc := congrArg (fun (y0 : Int) => (.int .i64 y0 : Value)) hr0; exact hcc)
  · simp only [Bool.and_eq_false_iff, beq_eq_false_iff_ne, ne_eq, Bool.not_eq_false'] at hc2
    have hcc := hc2
    refine c_skip ?_
    refine q_then ?_
    refine c_seq ?_
    refine c_region ?_
    refine o_pure (p_move (v := .int .i64 (Lru.trace l)) rfl) rfl rfl rfl ?_
    refine o_pure (p_assign (v := .int .i64 (Lru.trace l)) rfl) rfl rfl rfl ?_
    refine o_nil ?_
    refine q_then ?_
    refine c_ret ?_
    have hr0 : ((Lru.trace l) : Int) = (Ws.check l wd) := by
      have hbt : Ref.between wd 1 200 = Ws.okWin wd := rfl
      simp only [hbt] at *
      rcases Ws.chk_cases l wd with ⟨h1, h2⟩ | ⟨h1, h2, h3⟩ | ⟨h1, h2, h3⟩ <;> simp_all
    refine q_end0 (v := .int .i64 (Lru.trace l)) (rt1 rfl (r_tmp rfl)) (i := 0) rfl ?_
    exact (by have hcc := congrArg (fun (y0 : Int) => (.int .i64 y0 : Value)) hr0; exact hcc)

set_option maxHeartbeats 8000000 in
set_option maxRecDepth 100000 in
theorem workSet_ok (l : List Int) (al : Option Addr) (cl : Nat) (at_ : Int) (wd : Int) (hy1 : (0 ≤ at_ ∧ at_ < (l.length : Int)) ∧ (1 ≤ wd ∧ wd ≤ 200) ∧ l.length ≤ 200 ∧ ∀ x ∈ l, 0 ≤ x) : FnM Try.prog 45 [.slice al l.length cl, .int .i64 at_, .int .i64 wd] (fun w => Rd tInt w al cl l) (Option Addr × Nat) (fun p => .slice p.1 (Ws.set l wd at_.toNat).length p.2) (fun p S w => SlO tInt S w p.1 p.2 (Ws.set l wd at_.toNat)) := by
  refine fnM (nt := 53) (F0 := [(0, .slice al l.length cl), (1, .int .i64 at_), (2, .int .i64 wd)]) Try.func45 rfl Try.ntmps45 rfl rfl (fun w0 hpre => ?_)
  have hl := hpre
  have hlhl := hl.2.1
  refine c_seq ?_
  refine c_region ?_
  refine o_pure (p_assign (v := .slice none 0 0) rfl) rfl rfl rfl ?_
  refine o_nil ?_
  refine q_then ?_
  refine c_seq ?_
  refine c_region ?_
  refine o_pure (p_assign (v := .slice none 0 0) rfl) rfl rfl rfl ?_
  refine o_nil ?_
  refine q_then ?_
  refine c_seq ?_
  refine c_region ?_
  refine o_pure (p_assign (v := .int .i64 (-1)) rfl) rfl rfl rfl ?_
  refine o_nil ?_
  refine q_then ?_
  refine c_block ?_
  refine c_ownNil tInt ?_
  refine c_loop (St := List Int × Option Addr × Nat × (Nat → Prop) × Int)
    (fun ⟨out, aout, cout, Sout, last⟩ => [(0, .slice al l.length cl), (1, .int .i64 at_), (2, .int .i64 wd), (7, .slice aout out.length cout), (8, .int .i64 last)])
    (fun ⟨out, aout, cout, Sout, last⟩ => [own tInt Sout aout cout out, base w0])
    (fun ⟨out, aout, cout, Sout, last⟩ => Ws.OI l wd at_.toNat out last)
    (fun ⟨out, aout, cout, Sout, last⟩ => (Ws.set l wd at_.toNat).length - out.length)
    ([], none, 0, (fun _ => False), (-1)) ?_ (Sub.cons rfl (Sub.cons rfl (Sub.cons rfl (Sub.cons rfl (Sub.cons rfl (Sub.nil _)))))) (fun _ hw => hw) ?_
  · exact Ws.OI.start hy1.2.1.1 (by omega) hy1.2.2.2
  rintro ⟨out, aout, cout, Sout, last⟩ hI K hK2
  have hO := hI
  have hol := hI.len hy1.2.2.1 hy1.2.1.1 (by omega)
  have hlo9 := hI.lo
  show SC _ _ Try.prog 53 w0 _ _ [(0, .slice al l.length cl), (1, .int .i64 at_), (2, .int .i64 wd), (7, .slice aout out.length cout), (8, .int .i64 last)] [own tInt Sout aout cout out, base w0]
  refine c_block ?_
  refine c_seq ?_
  refine c_region ?_
  refine o_pure (p_assign (v := .int .i64 (-1)) rfl) rfl rfl rfl ?_
  refine o_nil ?_
  refine q_then ?_
  refine c_seq ?_
  refine c_seq ?_
  refine c_region ?_
  refine o_pure (p_move (v := .int .i64 at_) rfl) rfl rfl rfl ?_
  refine o_pure (p_assign (v := .int .i64 at_) rfl) rfl rfl rfl ?_
  refine o_nil ?_
  refine q_then ?_
  refine c_block ?_
  refine c_loop (St := Int × Int)
    (fun ⟨next_, i⟩ => [(0, .slice al l.length cl), (1, .int .i64 at_), (2, .int .i64 wd), (7, .slice aout out.length cout), (8, .int .i64 last), (9, .int .i64 next_), (10, .int .i64 i)])
    (fun ⟨next_, i⟩ => [own tInt Sout aout cout out, base w0])
    (fun ⟨next_, i⟩ => Ws.II l wd at_.toNat last next_ i)
    (fun ⟨next_, i⟩ => (i + 1).toNat)
    ((-1), at_) ?_ (Sub.cons rfl (Sub.cons rfl (Sub.cons rfl (Sub.cons rfl (Sub.cons rfl (Sub.cons rfl (Sub.cons rfl (Sub.nil _)))))))) (fun _ hw => hw) ?_
  · exact (by have h := Ws.II.start (l := l) (w := wd) (at_ := at_.toNat) hy1.2.1.1 last; rwa [show ((at_.toNat : Nat) : Int) = at_ by omega] at h)
  rintro ⟨next_, i⟩ hI K hK3
  have hlo := hI.lo
  have hhi := hI.hi
  show SC _ _ Try.prog 53 w0 _ _ [(0, .slice al l.length cl), (1, .int .i64 at_), (2, .int .i64 wd), (7, .slice aout out.length cout), (8, .int .i64 last), (9, .int .i64 next_), (10, .int .i64 i)] [own tInt Sout aout cout out, base w0]
  refine c_seq ?_
  refine c_seq ?_
  refine c_region ?_
  refine o_pure (p_move (v := .int .i64 i) rfl) rfl rfl rfl ?_
  refine o_pure (p_ge (p := i) (q := 0) rfl rfl) rfl rfl rfl ?_
  refine o_pure (p_move (v := .bool (decide (0 ≤ i))) rfl) rfl rfl rfl ?_
  refine o_and (p := 20) 6 (decide ((at_ - wd) < i)) ?_ ?_ ?_
  · intro hb4 hk
    simp only [decide_eq_true_eq] at hb4
    refine o_unguard 14 rfl rfl ?_
    refine o_pure (p_move (v := .int .i64 i) rfl) rfl rfl rfl ?_
    refine o_unguard 14 rfl rfl ?_
    refine o_pure (p_move (v := .int .i64 at_) rfl) rfl rfl rfl ?_
    refine o_unguard 14 rfl rfl ?_
    refine o_pure (p_move (v := .int .i64 wd) rfl) rfl rfl rfl ?_
    refine o_unguard 14 rfl rfl ?_
    refine o_pure (p_subb (p := at_) (q := wd) rfl rfl (by omega)) rfl rfl rfl ?_
    refine o_unguard 14 rfl rfl ?_
    refine o_pure (p_gt (p := i) (q := (at_ - wd)) rfl rfl) rfl rfl rfl ?_
    refine o_pure (p_pick_true (u := .bool (decide ((at_ - wd) < i))) rfl rfl) rfl rfl rfl ?_
    exact o_sub (Sub.cons rfl (Sub.skip rfl (Sub.skip rfl (Sub.skip rfl (Sub.skip rfl (Sub.skip rfl (Sub.skip rfl (Sub.skip rfl (Sub.refl _))))))))) hk
  · intro hb4 hk
    refine o_guard_no rfl 14 rfl rfl rfl rfl rfl ?_
    refine o_guard_no rfl 14 rfl rfl rfl rfl rfl ?_
    refine o_guard_no rfl 14 rfl rfl rfl rfl rfl ?_
    refine o_guard_no rfl 14 rfl rfl rfl rfl rfl ?_
    refine o_guard_no rfl 14 rfl rfl rfl rfl rfl ?_
    refine o_pure (p_pick_false (v := .bool false) rfl rfl) rfl rfl rfl ?_
    exact o_sub (Sub.cons rfl (Sub.skip rfl (Sub.skip rfl (Sub.skip rfl (Sub.skip rfl (Sub.skip rfl (Sub.skip rfl (Sub.skip rfl (Sub.refl _))))))))) hk
  refine o_nil ?_
  refine q_then ?_
  refine c_cond (b := (decide (0 ≤ i) && decide ((at_ - wd) < i))) rfl (fun hc5 => ?_) (fun hc5 => ?_)
  · simp only [Bool.and_eq_true, decide_eq_true_eq] at hc5
    have hgo := hc5
    refine c_skip ?_
    refine q_then ?_
    refine c_seq ?_
    refine c_block ?_
    refine c_seq ?_
    refine c_region ?_
    refine o_pure (p_move (v := .slice al l.length cl) rfl) rfl rfl rfl ?_
    refine o_pure (p_move (v := .int .i64 i) rfl) rfl rfl rfl ?_
    refine o_pure (p_indexAddr (L := l) (T := tInt) (i := i) rfl rfl (rd_base (i := 1) rfl hl) Try.underlying45 sz3 (by omega) (by omega)) rfl rfl rfl ?_
    refine o_pure (p_loadE1 (i := i.toNat) (T := tInt) (L := l) (v := .int .i64 (l[i.toNat])) rfl (rd_base (i := 1) rfl hl) (by first | assumption | omega) sh3 rfl) rfl rfl rfl ?_
    refine o_pure (p_move (v := .int .i64 last) rfl) rfl rfl rfl ?_
    refine o_pure (p_gt (p := l[i.toNat]) (q := last) rfl rfl) rfl rfl rfl ?_
    refine o_pure (p_move (v := .bool (decide (last < l[i.toNat]))) rfl) rfl rfl rfl ?_
    refine o_and (p := 40) 11 (decide (next_ < 0) || decide (l[i.toNat] < next_)) ?_ ?_ ?_
    · intro hb6 hk
      simp only [decide_eq_true_eq] at hb6
      refine o_unguard 29 rfl rfl ?_
      refine o_pure (p_move (v := .int .i64 next_) rfl) rfl rfl rfl ?_
      refine o_unguard 29 rfl rfl ?_
      refine o_pure (p_lt (p := next_) (q := 0) rfl rfl) rfl rfl rfl ?_
      refine o_unguard 29 rfl rfl ?_
      refine o_pure (p_move (v := .bool (decide (next_ < 0))) rfl) rfl rfl rfl ?_
      refine o_or (p := 39) 7 (decide (l[i.toNat] < next_)) ?_ ?_ ?_
      · intro hb7 hk
        simp only [decide_eq_false_iff_not, Int.not_lt] at hb7
        refine o_unguard 32 rfl rfl ?_
        refine o_pure (p_move (v := .slice al l.length cl) rfl) rfl rfl rfl ?_
        refine o_unguard 32 rfl rfl ?_
        refine o_pure (p_move (v := .int .i64 i) rfl) rfl rfl rfl ?_
        refine o_unguard 32 rfl rfl ?_
        refine o_pure (p_indexAddr (L := l) (T := tInt) (i := i) rfl rfl (rd_base (i := 1) rfl hl) Try.underlying45 sz3 (by omega) (by omega)) rfl rfl rfl ?_
        refine o_unguard 32 rfl rfl ?_
        refine o_pure (p_loadE1 (i := i.toNat) (T := tInt) (L := l) (v := .int .i64 (l[i.toNat])) rfl (rd_base (i := 1) rfl hl) (by first | assumption | omega) sh3 rfl) rfl rfl rfl ?_
        refine o_unguard 32 rfl rfl ?_
        refine o_pure (p_move (v := .int .i64 next_) rfl) rfl rfl rfl ?_
        refine o_unguard 32 rfl rfl ?_
        refine o_pure (p_lt (p := l[i.toNat]) (q := next_) rfl rfl) rfl rfl rfl ?_
        refine o_unguard 29 rfl rfl ?_
        refine o_pure (p_pick_false (v := .bool (decide (l[i.toNat] < next_))) rfl rfl) rfl rfl rfl ?_
        exact o_sub (Sub.cons rfl (Sub.skip rfl (Sub.skip rfl (Sub.skip rfl (Sub.skip rfl (Sub.skip rfl (Sub.skip rfl (Sub.skip rfl (Sub.skip rfl (Sub.refl _)))))))))) hk
      · intro hb7 hk
        refine o_guard_no rfl 32 rfl rfl rfl rfl rfl ?_
        refine o_guard_no rfl 32 rfl rfl rfl rfl rfl ?_
        refine o_guard_no rfl 32 rfl rfl rfl rfl rfl ?_
        refine o_guard_no rfl 32 rfl rfl rfl rfl rfl ?_
        refine o_guard_no rfl 32 rfl rfl rfl rfl rfl ?_
        refine o_guard_no rfl 32 rfl rfl rfl rfl rfl ?_
        refine o_unguard 29 rfl rfl ?_
        refine o_pure (p_pick_true (u := .bool true) rfl rfl) rfl rfl rfl ?_
        exact o_sub (Sub.cons rfl (Sub.skip rfl (Sub.skip rfl (Sub.skip rfl (Sub.skip rfl (Sub.skip rfl (Sub.skip rfl (Sub.skip rfl (Sub.skip rfl (Sub.refl _)))))))))) hk
      refine o_pure (p_pick_true (u := .bool (decide (next_ < 0) || decide (l[i.toNat] < next_))) rfl rfl) rfl rfl rfl ?_
      exact o_sub (Sub.cons rfl (Sub.skip rfl (Sub.skip rfl (Sub.skip rfl (Sub.skip rfl (Sub.skip rfl (Sub.refl _))))))) hk
    · intro hb6 hk
      refine o_guard_no rfl 29 rfl rfl rfl rfl rfl ?_
      refine o_guard_no rfl 29 rfl rfl rfl rfl rfl ?_
      refine o_guard_no rfl 29 rfl rfl rfl rfl rfl ?_
      refine o_guard_no rfl 32 rfl rfl rfl rfl rfl ?_
      refine o_guard_no rfl 32 rfl rfl rfl rfl rfl ?_
      refine o_guard_no rfl 32 rfl rfl rfl rfl rfl ?_
      refine o_guard_no rfl 32 rfl rfl rfl rfl rfl ?_
      refine o_guard_no rfl 32 rfl rfl rfl rfl rfl ?_
      refine o_guard_no rfl 32 rfl rfl rfl rfl rfl ?_
      refine o_guard_no rfl 29 rfl rfl rfl rfl rfl ?_
      refine o_pure (p_pick_false (v := .bool false) rfl rfl) rfl rfl rfl ?_
      exact o_sub (Sub.cons rfl (Sub.skip rfl (Sub.skip rfl (Sub.skip rfl (Sub.skip rfl (Sub.skip rfl (Sub.skip rfl (Sub.skip rfl (Sub.skip rfl (Sub.skip rfl (Sub.skip rfl (Sub.skip rfl (Sub.skip rfl (Sub.refl _)))))))))))))) hk
    refine o_nil ?_
    refine q_then ?_
    refine c_cond (b := (decide (last < l[i.toNat]) && (decide (next_ < 0) || decide (l[i.toNat] < next_)))) rfl (fun hc8 => ?_) (fun hc8 => ?_)
    · simp only [Bool.and_eq_true, decide_eq_true_eq, Bool.or_eq_true] at hc8
      have hpk := hc8
      refine c_region ?_
      refine o_pure (p_move (v := .slice al l.length cl) rfl) rfl rfl rfl ?_
      refine o_pure (p_move (v := .int .i64 i) rfl) rfl rfl rfl ?_
      refine o_pure (p_indexAddr (L := l) (T := tInt) (i := i) rfl rfl (rd_base (i := 1) rfl hl) Try.underlying45 sz3 (by omega) (by omega)) rfl rfl rfl ?_
      refine o_pure (p_loadE1 (i := i.toNat) (T := tInt) (L := l) (v := .int .i64 (l[i.toNat])) rfl (rd_base (i := 1) rfl hl) (by first | assumption | omega) sh3 rfl) rfl rfl rfl ?_
      refine o_pure (p_assign (v := .int .i64 (l[i.toNat])) rfl) rfl rfl rfl ?_
      refine o_nil ?_
      refine q_block_normal (q_then ?_)
      refine c_region ?_
      refine o_pure (p_move (v := .int .i64 i) rfl) rfl rfl rfl ?_
      refine o_pure (p_subb (p := i) (q := 1) rfl rfl (by omega)) rfl rfl rfl ?_
      refine o_pure (p_assign (v := .int .i64 (i - 1)) rfl) rfl rfl rfl ?_
      refine o_nil ?_
      refine q_round hK3 (l[i.toNat], (i - 1)) ?_ ?_ ?_ ?_
      · clear hK3
        first | exact hI.take_ hy1.2.2.2 (by omega) (by omega) (by omega) hpk | exact hI.skip (by omega) (by omega) (by omega) hpk
      · (try dsimp only); omega
      · exact Sub.cons rfl (Sub.cons rfl (Sub.cons rfl (Sub.cons rfl (Sub.cons rfl (Sub.cons rfl (Sub.cons rfl (Sub.nil _)))))))
      · exact fun _ hw => HeapIs.pick hw [0, 1] (by decide) rfl
    · simp only [Bool.and_eq_false_iff, decide_eq_false_iff_not, Int.not_lt, Bool.or_eq_false_iff] at hc8
      have hpk := hc8
      refine c_skip ?_
      refine q_block_normal (q_then ?_)
      refine c_region ?_
      refine o_pure (p_move (v := .int .i64 i) rfl) rfl rfl rfl ?_
      refine o_pure (p_subb (p := i) (q := 1) rfl rfl (by omega)) rfl rfl rfl ?_
      refine o_pure (p_assign (v := .int .i64 (i - 1)) rfl) rfl rfl rfl ?_
      refine o_nil ?_
      refine q_round hK3 (next_, (i - 1)) ?_ ?_ ?_ ?_
      · clear hK3
        first | exact hI.take_ hy1.2.2.2 (by omega) (by omega) (by omega) hpk | exact hI.skip (by omega) (by omega) (by omega) hpk
      · (try dsimp only); omega
      · exact Sub.cons rfl (Sub.cons rfl (Sub.cons rfl (Sub.cons rfl (Sub.cons rfl (Sub.cons rfl (Sub.cons rfl (Sub.nil _)))))))
      · exact fun _ hw => HeapIs.pick hw [0, 1] (by decide) rfl
  · simp only [Bool.and_eq_false_iff, decide_eq_false_iff_not, Int.not_le, Int.not_lt] at hc5
    have hend : i < 0 ∨ i ≤ at_ - wd := by simpa using hc5
    refine c_exit ?_
    refine q_then_exit (q_then_exit (q_block_exit (q_then ?_)))
    refine c_seq ?_
    refine c_seq ?_
    refine c_region ?_
    refine o_pure (p_move (v := .int .i64 next_) rfl) rfl rfl rfl ?_
    refine o_pure (p_lt (p := next_) (q := 0) rfl rfl) rfl rfl rfl ?_
    refine o_nil ?_
    refine q_then ?_
    refine c_cond (b := decide (next_ < 0)) rfl (fun hc9 => ?_) (fun hc9 => ?_)
    · simp only [decide_eq_true_eq] at hc9
      have hfin := hc9
      refine c_seq ?_
      refine c_region ?_
      refine o_pure (p_move (v := .slice aout out.length cout) rfl) rfl rfl rfl ?_
      refine o_pure (p_assign (v := .slice aout out.length cout) rfl) rfl rfl rfl ?_
      refine o_nil ?_
      refine q_then ?_
      refine c_ret ?_
      refine q_then_ret (q_block_ret (q_then_ret (q_block_ret ?_)))
      have hr0 : (out : List Int) = (Ws.set l wd at_.toNat) := by
        exact hO.done hI hy1.2.1.1 (by omega) (by omega) (by omega)
      refine q_endM (p := (aout, cout)) Sout (rt1 rfl (r_tmp rfl)) (i := 1) rfl ?_ ?_ ?_
      · exact (by have hcc := congrArg (fun (y0 : List Int) => (.slice aout y0.length cout : Value)) hr0; exact hcc)
      · exact fun w hw => hw.above (i := 1) (j := 0) (by decide) rfl rfl
      · intro w hw; exact Eq.mp (congrArg (fun y => SlO tInt _ w aout cout y) hr0) ((hw.at (i := 0) rfl).here)
    · simp only [decide_eq_false_iff_not, Int.not_lt] at hc9
      have hfin := hc9
      refine c_skip ?_
      refine q_then ?_
      refine c_seq ?_
      refine c_region ?_
      refine o_pure (p_move (v := .slice aout out.length cout) rfl) rfl rfl rfl ?_
      refine o_pure (p_move (v := .int .i64 next_) rfl) rfl rfl rfl ?_
      refine o_buildSlice (m := 1) (T := tInt) (L := [next_]) (vs := [.int .i64 next_]) rfl rfl rfl rfl Try.underlying45 sz3 (by decide) ze3 rfl (by decide) rfl (fun S10 a11 => ?_)
      refine o_append (i := 1) (L := out) (M := [next_]) (T := tInt) rfl rfl rfl (rd_own (i := 0) rfl) Try.underlying45 Try.underlying45 (by intro k h; cases h) el3 (by intro z; simp [tInt, one1]) (by decide) (by first | omega | (simp only [List.length_cons, List.length_nil]; omega) | (simp only [List.length_append, List.length_cons, List.length_nil, List.length_take, List.length_drop]; omega)) rfl (fun a13 c14 S15 => ?_)
      refine o_pure (p_assign (v := .slice a13 (out ++ [next_]).length c14) rfl) rfl rfl rfl ?_
      refine o_nil ?_
      refine q_then ?_
      refine c_region ?_
      refine o_pure (p_move (v := .int .i64 next_) rfl) rfl rfl rfl ?_
      refine o_pure (p_assign (v := .int .i64 next_) rfl) rfl rfl rfl ?_
      refine o_nil ?_
      refine q_block_normal ?_
      refine q_round hK2 ((out ++ [next_]), a13, c14, S15, next_) ?_ ?_ ?_ ?_
      · clear hK2
        exact (hO.next hI hy1.2.1.1 (by omega) (by omega) (by omega)).1
      · (try dsimp only); have hnx := (hO.next hI hy1.2.1.1 (by omega) (by omega) (by omega)).2; simp only [List.length_append, List.length_cons, List.length_nil] at *; omega
      · exact Sub.cons rfl (Sub.cons rfl (Sub.cons rfl (Sub.cons rfl (Sub.cons rfl (Sub.nil _)))))
      · exact fun _ hw => HeapIs.pick hw [1, 2] (by decide) rfl
end Go.Proofs.Ythecfjipaepcgaa
