/- The walks, printed by a program from the translation and a specification. -/
import Derived.Test.YthbfdhphnofacaaAaF
import Derived.Test.YthbfdhphnofacaaFlPure
import Derived.Test.YthbfdhphnofacaaFlLaw
namespace Go.Proofs.Ythbfdhphnofacaa
open Go.Sx Go.RowKit
set_option maxHeartbeats 8000000 in
set_option maxRecDepth 100000 in
theorem key_ok (n : Int) : Fn0 Try.prog 50 [.int .i64 n] (fun _ => True) (.bool (Lru.okKey n)) := by
  refine fn0 (nt := 9) (F0 := [(0, .int .i64 n)]) Try.func50 rfl Try.ntmps50 rfl rfl (fun w0 hpre => ?_)
  refine c_seq ?_
  refine c_region ?_
  refine o_pure (p_assign (v := .bool false) rfl) rfl rfl rfl ?_
  refine o_nil ?_
  refine q_then ?_
  refine c_seq ?_
  refine c_region ?_
  refine o_pure (p_move (v := .int .i64 n) rfl) rfl rfl rfl ?_
  refine o_pure (p_ge (p := n) (q := 0) rfl rfl) rfl rfl rfl ?_
  refine o_pure (p_move (v := .bool (decide (0 ≤ n))) rfl) rfl rfl rfl ?_
  refine o_and (p := 8) 3 (decide (n ≤ 1048576)) ?_ ?_ ?_
  · intro hb1 hk
    simp only [decide_eq_true_eq] at hb1
    refine o_unguard 5 rfl rfl ?_
    refine o_pure (p_move (v := .int .i64 n) rfl) rfl rfl rfl ?_
    refine o_unguard 5 rfl rfl ?_
    refine o_pure (p_le (p := n) (q := 1048576) rfl rfl) rfl rfl rfl ?_
    refine o_pure (p_pick_true (u := .bool (decide (n ≤ 1048576))) rfl rfl) rfl rfl rfl ?_
    exact o_sub (Sub.cons rfl (Sub.skip rfl (Sub.skip rfl (Sub.skip rfl (Sub.skip rfl (Sub.refl _)))))) hk
  · intro hb1 hk
    refine o_guard_no rfl 5 rfl rfl rfl rfl rfl ?_
    refine o_guard_no rfl 5 rfl rfl rfl rfl rfl ?_
    refine o_pure (p_pick_false (v := .bool false) rfl rfl) rfl rfl rfl ?_
    exact o_sub (Sub.cons rfl (Sub.skip rfl (Sub.skip rfl (Sub.skip rfl (Sub.skip rfl (Sub.refl _)))))) hk
  refine o_pure (p_assign (v := .bool (decide (0 ≤ n) && decide (n ≤ 1048576))) rfl) rfl rfl rfl ?_
  refine o_nil ?_
  refine q_then ?_
  refine c_ret ?_
  refine q_end0 (v := .bool (decide (0 ≤ n) && decide (n ≤ 1048576))) (rt1 rfl (r_tmp rfl)) (i := 0) rfl ?_
  rfl

set_option maxHeartbeats 8000000 in
set_option maxRecDepth 100000 in
theorem between_ok (n : Int) (a : Int) (b : Int) : Fn0 Try.prog 49 [.int .i64 n, .int .i64 a, .int .i64 b] (fun _ => True) (.bool (Ref.between n a b)) := by
  refine fn0 (nt := 15) (F0 := [(0, .int .i64 n), (1, .int .i64 a), (2, .int .i64 b)]) Try.func49 rfl Try.ntmps49 rfl rfl (fun w0 hpre => ?_)
  refine c_seq ?_
  refine c_region ?_
  refine o_pure (p_assign (v := .bool false) rfl) rfl rfl rfl ?_
  refine o_nil ?_
  refine q_then ?_
  refine c_seq ?_
  refine c_region ?_
  refine o_pure (p_move (v := .int .i64 n) rfl) rfl rfl rfl ?_
  refine o_pure (p_move (v := .int .i64 a) rfl) rfl rfl rfl ?_
  refine o_pure (p_ge (p := n) (q := a) rfl rfl) rfl rfl rfl ?_
  refine o_pure (p_move (v := .bool (decide (a ≤ n))) rfl) rfl rfl rfl ?_
  refine o_and (p := 14) 4 (decide (n ≤ b)) ?_ ?_ ?_
  · intro hb1 hk
    simp only [decide_eq_true_eq] at hb1
    refine o_unguard 10 rfl rfl ?_
    refine o_pure (p_move (v := .int .i64 n) rfl) rfl rfl rfl ?_
    refine o_unguard 10 rfl rfl ?_
    refine o_pure (p_move (v := .int .i64 b) rfl) rfl rfl rfl ?_
    refine o_unguard 10 rfl rfl ?_
    refine o_pure (p_le (p := n) (q := b) rfl rfl) rfl rfl rfl ?_
    refine o_pure (p_pick_true (u := .bool (decide (n ≤ b))) rfl rfl) rfl rfl rfl ?_
    exact o_sub (Sub.cons rfl (Sub.skip rfl (Sub.skip rfl (Sub.skip rfl (Sub.skip rfl (Sub.skip rfl (Sub.refl _))))))) hk
  · intro hb1 hk
    refine o_guard_no rfl 10 rfl rfl rfl rfl rfl ?_
    refine o_guard_no rfl 10 rfl rfl rfl rfl rfl ?_
    refine o_guard_no rfl 10 rfl rfl rfl rfl rfl ?_
    refine o_pure (p_pick_false (v := .bool false) rfl rfl) rfl rfl rfl ?_
    exact o_sub (Sub.cons rfl (Sub.skip rfl (Sub.skip rfl (Sub.skip rfl (Sub.skip rfl (Sub.skip rfl (Sub.refl _))))))) hk
  refine o_pure (p_assign (v := .bool (decide (a ≤ n) && decide (n ≤ b))) rfl) rfl rfl rfl ?_
  refine o_nil ?_
  refine q_then ?_
  refine c_ret ?_
  refine q_end0 (v := .bool (decide (a ≤ n) && decide (n ≤ b))) (rt1 rfl (r_tmp rfl)) (i := 0) rfl ?_
  rfl

set_option maxHeartbeats 8000000 in
set_option maxRecDepth 100000 in
theorem check_ok (l : List DCall) (al : Option Addr) (cl : Nat) : Fn0 Try.prog 30 [.slice al l.length cl] (fun w => Rd tCall w al cl l) (.int .i64 (Flight.check l)) := by
  refine fn0 (nt := 48) (F0 := [(0, .slice al l.length cl)]) Try.func30 rfl Try.ntmps30 rfl rfl (fun w0 hpre => ?_)
  have hl := hpre
  have hll := hl.2.1
  refine c_seq ?_
  refine c_region ?_
  refine o_pure (p_assign (v := .int .i64 0) rfl) rfl rfl rfl ?_
  refine o_nil ?_
  refine q_then ?_
  refine c_seq ?_
  refine c_seq ?_
  refine c_region ?_
  refine o_pure (p_move (v := .slice al l.length cl) rfl) rfl rfl rfl ?_
  refine o_pure (p_len_slice (len := l.length) rfl rfl Try.underlying37) rfl rfl rfl ?_
  refine o_pure (p_gt (p := (l.length : Int)) (q := 60) rfl rfl) rfl rfl rfl ?_
  refine o_nil ?_
  refine q_then ?_
  refine c_cond (b := decide (60 < (l.length : Int))) rfl (fun hc1 => ?_) (fun hc1 => ?_)
  · simp only [decide_eq_true_eq] at hc1
    refine c_seq ?_
    refine c_region ?_
    refine o_pure (p_assign (v := .int .i64 2) rfl) rfl rfl rfl ?_
    refine o_nil ?_
    refine q_then ?_
    refine c_ret ?_
    refine q_then_ret ?_
    refine q_end0 (v := .int .i64 2) (rt1 rfl (r_tmp rfl)) (i := 0) rfl ?_
    congr 1
    grind [Flight.check, Flight.checkFrom, Flight.bad, Lru.okKey, Ref.between, List.drop_eq_getElem_cons]
  · simp only [decide_eq_false_iff_not, Int.not_lt] at hc1
    refine c_skip ?_
    refine q_then ?_
    refine c_seq ?_
    refine c_region ?_
    refine o_pure (p_assign (v := .int .i64 0) rfl) rfl rfl rfl ?_
    refine o_nil ?_
    refine q_then ?_
    refine c_seq ?_
    refine c_seq ?_
    refine c_region ?_
    refine o_pure (p_move (v := .slice al l.length cl) rfl) rfl rfl rfl ?_
    refine o_pure (p_len_slice (len := l.length) rfl rfl Try.underlying37) rfl rfl rfl ?_
    refine o_pure (p_move (v := .int .i64 0) rfl) rfl rfl rfl ?_
    refine o_nil ?_
    refine q_then ?_
    refine c_block ?_
    refine c_loop (St := Int × Nat)
      (fun ⟨last, k⟩ => [(3, .int .i64 last), (9, .slice al l.length cl), (10, .int .i64 (l.length : Int)), (11, .int .i64 (k : Int))])
      (fun ⟨last, k⟩ => [base w0])
      (fun ⟨last, k⟩ => k ≤ l.length ∧ Flight.checkFrom last (l.drop k) = Flight.checkFrom 0 l)
      (fun ⟨last, k⟩ => l.length - k)
      (0, 0) ?_ (Sub.cons rfl (Sub.cons rfl (Sub.cons rfl (Sub.cons rfl (Sub.nil _))))) (fun _ hw => hw) ?_
    · simp
    rintro ⟨last, k⟩ hI K hK2
    obtain ⟨hk, hinv⟩ := hI
    show SC Try.prog 48 w0 _ _ [(3, .int .i64 last), (9, .slice al l.length cl), (10, .int .i64 (l.length : Int)), (11, .int .i64 (k : Int))] [base w0]
    refine c_seq ?_
    refine c_region ?_
    refine o_pure (p_lt (p := (k : Int)) (q := (l.length : Int)) rfl rfl) rfl rfl rfl ?_
    refine o_nil ?_
    refine q_then ?_
    refine c_seq ?_
    refine c_cond (b := decide ((k : Int) < (l.length : Int))) rfl (fun hc3 => ?_) (fun hc3 => ?_)
    · simp only [decide_eq_true_eq] at hc3
      refine c_skip ?_
      refine q_then ?_
      refine c_seq ?_
      refine c_block ?_
      refine c_seq ?_
      refine c_region ?_
      refine o_pure (p_indexAddr (L := l) (T := tCall) (i := (k : Int)) rfl rfl (rd_base (i := 0) rfl hl) Try.underlying37 sz47 (by omega) (by omega)) rfl rfl rfl ?_
      refine o_pure (p_loadEn (i := k) (T := tCall) (L := l) (vs := [.int .i64 ((l[k]).key), .int .i64 ((l[k]).at_), .int .i64 ((l[k]).long)]) rfl (rd_base (i := 0) rfl hl) (by first | assumption | omega) sh47 rfl) rfl rfl rfl ?_
      refine o_alloc ze47 rfl (fun B4 => ?_)
      refine o_storeN (i := 0) (vs := [.int .i64 ((l[k]).key), .int .i64 ((l[k]).at_), .int .i64 ((l[k]).long)]) (cs' := [.int .i64 ((l[k]).key), .int .i64 ((l[k]).at_), .int .i64 ((l[k]).long)]) rfl rfl rfl sz47 rfl rfl rfl rfl ?_
      refine o_nil ?_
      refine q_then ?_
      refine c_seq ?_
      refine c_block ?_
      refine c_seq ?_
      refine c_region ?_
      refine o_pure (p_fieldAddr (B := B4) (j := 0) (j' := 0) rfl fo47_0 rfl) rfl rfl rfl ?_
      refine o_pure (p_load (i := 0) (v := .int .i64 ((l[k]).key)) rfl rfl sh3 rfl) rfl rfl rfl ?_
      refine o_call0 (v := .bool (Lru.okKey ((l[k]).key))) rfl (key_ok ((l[k]).key)) hf50 (fun _ _ => trivial) rfl ?_
      refine o_pure (p_not (b := (Lru.okKey ((l[k]).key))) rfl) rfl rfl rfl ?_
      refine o_pure (p_move (v := .bool (!(Lru.okKey ((l[k]).key)))) rfl) rfl rfl rfl ?_
      refine o_or (p := 24) 4 (decide ((l[k]).at_ < 0)) ?_ ?_ ?_
      · intro hb5 hk
        simp only [Bool.not_eq_false'] at hb5
        refine o_unguard 20 rfl rfl ?_
        refine o_pure (p_fieldAddr (B := B4) (j := 0) (j' := 1) rfl fo47_1 rfl) rfl rfl rfl ?_
        refine o_unguard 20 rfl rfl ?_
        refine o_pure (p_load (i := 0) (v := .int .i64 ((l[k]).at_)) rfl rfl sh3 rfl) rfl rfl rfl ?_
        refine o_unguard 20 rfl rfl ?_
        refine o_pure (p_lt (p := (l[k]).at_) (q := 0) rfl rfl) rfl rfl rfl ?_
        refine o_pure (p_pick_false (v := .bool (decide ((l[k]).at_ < 0))) rfl rfl) rfl rfl rfl ?_
        exact o_sub (Sub.cons rfl (Sub.skip rfl (Sub.skip rfl (Sub.skip rfl (Sub.skip rfl (Sub.skip rfl (Sub.refl _))))))) hk
      · intro hb5 hk
        refine o_guard_no rfl 20 rfl rfl rfl rfl rfl ?_
        refine o_guard_no rfl 20 rfl rfl rfl rfl rfl ?_
        refine o_guard_no rfl 20 rfl rfl rfl rfl rfl ?_
        refine o_pure (p_pick_true (u := .bool true) rfl rfl) rfl rfl rfl ?_
        exact o_sub (Sub.cons rfl (Sub.skip rfl (Sub.skip rfl (Sub.skip rfl (Sub.skip rfl (Sub.skip rfl (Sub.refl _))))))) hk
      refine o_pure (p_move (v := .bool ((!(Lru.okKey ((l[k]).key))) || decide ((l[k]).at_ < 0))) rfl) rfl rfl rfl ?_
      refine o_or (p := 29) 4 (decide (1099511627776 < (l[k]).at_)) ?_ ?_ ?_
      · intro hb6 hk
        simp only [Bool.or_eq_false_iff, Bool.not_eq_false', decide_eq_false_iff_not, Int.not_lt] at hb6
        refine o_unguard 25 rfl rfl ?_
        refine o_pure (p_fieldAddr (B := B4) (j := 0) (j' := 1) rfl fo47_1 rfl) rfl rfl rfl ?_
        refine o_unguard 25 rfl rfl ?_
        refine o_pure (p_load (i := 0) (v := .int .i64 ((l[k]).at_)) rfl rfl sh3 rfl) rfl rfl rfl ?_
        refine o_unguard 25 rfl rfl ?_
        refine o_pure (p_gt (p := (l[k]).at_) (q := 1099511627776) rfl rfl) rfl rfl rfl ?_
        refine o_pure (p_pick_false (v := .bool (decide (1099511627776 < (l[k]).at_))) rfl rfl) rfl rfl rfl ?_
        exact o_sub (Sub.cons rfl (Sub.skip rfl (Sub.skip rfl (Sub.skip rfl (Sub.skip rfl (Sub.skip rfl (Sub.refl _))))))) hk
      · intro hb6 hk
        refine o_guard_no rfl 25 rfl rfl rfl rfl rfl ?_
        refine o_guard_no rfl 25 rfl rfl rfl rfl rfl ?_
        refine o_guard_no rfl 25 rfl rfl rfl rfl rfl ?_
        refine o_pure (p_pick_true (u := .bool true) rfl rfl) rfl rfl rfl ?_
        exact o_sub (Sub.cons rfl (Sub.skip rfl (Sub.skip rfl (Sub.skip rfl (Sub.skip rfl (Sub.skip rfl (Sub.refl _))))))) hk
      refine o_pure (p_move (v := .bool (((!(Lru.okKey ((l[k]).key))) || decide ((l[k]).at_ < 0)) || decide (1099511627776 < (l[k]).at_))) rfl) rfl rfl rfl ?_
      refine o_or (p := 34) 4 (decide ((l[k]).long < 1)) ?_ ?_ ?_
      · intro hb7 hk
        simp only [Bool.or_eq_false_iff, Bool.not_eq_false', decide_eq_false_iff_not, Int.not_lt] at hb7
        refine o_unguard 30 rfl rfl ?_
        refine o_pure (p_fieldAddr (B := B4) (j := 0) (j' := 2) rfl fo47_2 rfl) rfl rfl rfl ?_
        refine o_unguard 30 rfl rfl ?_
        refine o_pure (p_load (i := 0) (v := .int .i64 ((l[k]).long)) rfl rfl sh3 rfl) rfl rfl rfl ?_
        refine o_unguard 30 rfl rfl ?_
        refine o_pure (p_lt (p := (l[k]).long) (q := 1) rfl rfl) rfl rfl rfl ?_
        refine o_pure (p_pick_false (v := .bool (decide ((l[k]).long < 1))) rfl rfl) rfl rfl rfl ?_
        exact o_sub (Sub.cons rfl (Sub.skip rfl (Sub.skip rfl (Sub.skip rfl (Sub.skip rfl (Sub.skip rfl (Sub.refl _))))))) hk
      · intro hb7 hk
        refine o_guard_no rfl 30 rfl rfl rfl rfl rfl ?_
        refine o_guard_no rfl 30 rfl rfl rfl rfl rfl ?_
        refine o_guard_no rfl 30 rfl rfl rfl rfl rfl ?_
        refine o_pure (p_pick_true (u := .bool true) rfl rfl) rfl rfl rfl ?_
        exact o_sub (Sub.cons rfl (Sub.skip rfl (Sub.skip rfl (Sub.skip rfl (Sub.skip rfl (Sub.skip rfl (Sub.refl _))))))) hk
      refine o_pure (p_move (v := .bool ((((!(Lru.okKey ((l[k]).key))) || decide ((l[k]).at_ < 0)) || decide (1099511627776 < (l[k]).at_)) || decide ((l[k]).long < 1))) rfl) rfl rfl rfl ?_
      refine o_or (p := 39) 4 (decide (1073741824 < (l[k]).long)) ?_ ?_ ?_
      · intro hb8 hk
        simp only [Bool.or_eq_false_iff, Bool.not_eq_false', decide_eq_false_iff_not, Int.not_lt] at hb8
        refine o_unguard 35 rfl rfl ?_
        refine o_pure (p_fieldAddr (B := B4) (j := 0) (j' := 2) rfl fo47_2 rfl) rfl rfl rfl ?_
        refine o_unguard 35 rfl rfl ?_
        refine o_pure (p_load (i := 0) (v := .int .i64 ((l[k]).long)) rfl rfl sh3 rfl) rfl rfl rfl ?_
        refine o_unguard 35 rfl rfl ?_
        refine o_pure (p_gt (p := (l[k]).long) (q := 1073741824) rfl rfl) rfl rfl rfl ?_
        refine o_pure (p_pick_false (v := .bool (decide (1073741824 < (l[k]).long))) rfl rfl) rfl rfl rfl ?_
        exact o_sub (Sub.cons rfl (Sub.skip rfl (Sub.skip rfl (Sub.skip rfl (Sub.skip rfl (Sub.skip rfl (Sub.refl _))))))) hk
      · intro hb8 hk
        refine o_guard_no rfl 35 rfl rfl rfl rfl rfl ?_
        refine o_guard_no rfl 35 rfl rfl rfl rfl rfl ?_
        refine o_guard_no rfl 35 rfl rfl rfl rfl rfl ?_
        refine o_pure (p_pick_true (u := .bool true) rfl rfl) rfl rfl rfl ?_
        exact o_sub (Sub.cons rfl (Sub.skip rfl (Sub.skip rfl (Sub.skip rfl (Sub.skip rfl (Sub.skip rfl (Sub.refl _))))))) hk
      refine o_pure (p_assign (v := .bool (((((!(Lru.okKey ((l[k]).key))) || decide ((l[k]).at_ < 0)) || decide (1099511627776 < (l[k]).at_)) || decide ((l[k]).long < 1)) || decide (1073741824 < (l[k]).long))) rfl) rfl rfl rfl ?_
      refine o_nil ?_
      refine q_then ?_
      refine c_cond (b := (((((!(Lru.okKey ((l[k]).key))) || decide ((l[k]).at_ < 0)) || decide (1099511627776 < (l[k]).at_)) || decide ((l[k]).long < 1)) || decide (1073741824 < (l[k]).long))) rfl (fun hc9 => ?_) (fun hc9 => ?_)
      · simp only [Bool.or_eq_true, Bool.not_eq_true', decide_eq_true_eq] at hc9
        refine c_seq ?_
        refine c_region ?_
        refine o_pure (p_assign (v := .int .i64 3) rfl) rfl rfl rfl ?_
        refine o_nil ?_
        refine q_then ?_
        refine c_ret ?_
        refine q_block_ret (q_then_ret (q_block_ret (q_then_ret (q_then_ret (q_block_ret (q_then_ret ?_))))))
        refine q_end0 (v := .int .i64 3) (rt1 rfl (r_tmp rfl)) (i := 1) rfl ?_
        congr 1
        grind [Flight.check, Flight.checkFrom, Flight.bad, Lru.okKey, Ref.between, List.drop_eq_getElem_cons]
      · simp only [Bool.or_eq_false_iff, Bool.not_eq_false', decide_eq_false_iff_not, Int.not_lt] at hc9
        refine c_seq ?_
        refine c_region ?_
        refine o_pure (p_fieldAddr (B := B4) (j := 0) (j' := 1) rfl fo47_1 rfl) rfl rfl rfl ?_
        refine o_pure (p_load (i := 0) (v := .int .i64 ((l[k]).at_)) rfl rfl sh3 rfl) rfl rfl rfl ?_
        refine o_pure (p_move (v := .int .i64 last) rfl) rfl rfl rfl ?_
        refine o_pure (p_lt (p := (l[k]).at_) (q := last) rfl rfl) rfl rfl rfl ?_
        refine o_pure (p_assign (v := .bool (decide ((l[k]).at_ < last))) rfl) rfl rfl rfl ?_
        refine o_nil ?_
        refine q_then ?_
        refine c_cond (b := decide ((l[k]).at_ < last)) rfl (fun hc10 => ?_) (fun hc10 => ?_)
        · simp only [decide_eq_true_eq] at hc10
          refine c_seq ?_
          refine c_region ?_
          refine o_pure (p_assign (v := .int .i64 4) rfl) rfl rfl rfl ?_
          refine o_nil ?_
          refine q_then ?_
          refine c_ret ?_
          refine q_block_ret (q_then_ret (q_block_ret (q_then_ret (q_then_ret (q_block_ret (q_then_ret ?_))))))
          refine q_end0 (v := .int .i64 4) (rt1 rfl (r_tmp rfl)) (i := 1) rfl ?_
          congr 1
          grind [Flight.check, Flight.checkFrom, Flight.bad, Lru.okKey, Ref.between, List.drop_eq_getElem_cons]
        · simp only [decide_eq_false_iff_not, Int.not_lt] at hc10
          refine c_skip ?_
          refine q_block_normal (q_then ?_)
          refine c_region ?_
          refine o_pure (p_fieldAddr (B := B4) (j := 0) (j' := 1) rfl fo47_1 rfl) rfl rfl rfl ?_
          refine o_pure (p_load (i := 0) (v := .int .i64 ((l[k]).at_)) rfl rfl sh3 rfl) rfl rfl rfl ?_
          refine o_pure (p_assign (v := .int .i64 ((l[k]).at_)) rfl) rfl rfl rfl ?_
          refine o_nil ?_
          refine q_block_normal (q_then ?_)
          refine c_region ?_
          refine o_pure (p_addb (p := (k : Int)) (q := 1) rfl rfl (by omega)) rfl rfl rfl ?_
          refine o_pure (p_move (v := .int .i64 ((k : Int) + 1)) rfl) rfl rfl rfl ?_
          refine o_nil ?_
          refine q_round hK2 ((l[k]).at_, k + 1) ?_ ?_ ?_ ?_
          · clear hK2
            refine ⟨by omega, ?_⟩
            grind [Flight.check, Flight.checkFrom, Flight.bad, Lru.okKey, Ref.between, List.drop_eq_getElem_cons]
          · (try dsimp only); omega
          · exact Sub.cons rfl (Sub.cons rfl (Sub.cons rfl (Sub.cons rfl (Sub.nil _))))
          · exact fun _ hw => HeapIs.drop hw (List.Sublist.cons _ (List.Sublist.refl _))
    · simp only [decide_eq_false_iff_not, Int.not_lt] at hc3
      refine c_exit ?_
      refine q_then_exit (q_then_exit (q_block_exit (q_then ?_)))
      refine c_seq ?_
      refine c_region ?_
      refine o_pure (p_assign (v := .int .i64 0) rfl) rfl rfl rfl ?_
      refine o_nil ?_
      refine q_then ?_
      refine c_ret ?_
      refine q_end0 (v := .int .i64 0) (rt1 rfl (r_tmp rfl)) (i := 0) rfl ?_
      congr 1
      grind [Flight.check, Flight.checkFrom, Flight.bad, Lru.okKey, Ref.between, List.drop_eq_getElem_cons]

set_option maxHeartbeats 8000000 in
set_option maxRecDepth 100000 in
theorem plan_ok (l : List DCall) (al : Option Addr) (cl : Nat) (hy1 : l.length ≤ 1000000) : FnM Try.prog 48 [.slice al l.length cl] (fun w => Rd tCall w al cl l) (Option Addr × Nat) (fun p => .slice p.1 (Flight.plan l).length p.2) (fun p S w => SlO tLoad S w p.1 p.2 (Flight.plan l)) := by
  refine fnM (nt := 50) (F0 := [(0, .slice al l.length cl)]) Try.func48 rfl Try.ntmps48 rfl rfl (fun w0 hpre => ?_)
  have hl := hpre
  have hll := hl.2.1
  refine c_seq ?_
  refine c_region ?_
  refine o_pure (p_assign (v := .slice none 0 0) rfl) rfl rfl rfl ?_
  refine o_nil ?_
  refine q_then ?_
  refine c_seq ?_
  refine c_region ?_
  refine o_makeMap (ν := DLoad) kInt Flight.veLoad rfl (fun B1 => ?_)
  refine o_pure (p_assign (v := .map (some B1)) rfl) rfl rfl rfl ?_
  refine o_nil ?_
  refine q_then ?_
  refine c_seq ?_
  refine c_region ?_
  refine o_pure (p_assign (v := .slice none 0 0) rfl) rfl rfl rfl ?_
  refine o_nil ?_
  refine q_then ?_
  refine c_seq ?_
  refine c_seq ?_
  refine c_region ?_
  refine o_pure (p_move (v := .slice al l.length cl) rfl) rfl rfl rfl ?_
  refine o_pure (p_len_slice (len := l.length) rfl rfl Try.underlying37) rfl rfl rfl ?_
  refine o_pure (p_move (v := .int .i64 0) rfl) rfl rfl rfl ?_
  refine o_nil ?_
  refine q_then ?_
  refine c_block ?_
  refine c_ownNil tLoad ?_
  refine c_loop (St := List DLoad × Option Addr × Nat × (Nat → Prop) × Nat × List (Int × DLoad))
    (fun ⟨out, aout, cout, Sout, k, m⟩ => [(3, .map (some B1)), (4, .slice aout out.length cout), (10, .slice al l.length cl), (11, .int .i64 (l.length : Int)), (12, .int .i64 (k : Int))])
    (fun ⟨out, aout, cout, Sout, k, m⟩ => [own tLoad Sout aout cout out, mapE kInt Flight.veLoad B1 m, base w0])
    (fun ⟨out, aout, cout, Sout, k, m⟩ => k ≤ l.length ∧ out.length = k ∧ out ++ Flight.planGo k m (l.drop k) = Flight.planGo 0 [] l)
    (fun ⟨out, aout, cout, Sout, k, m⟩ => l.length - k)
    ([], none, 0, (fun _ => False), 0, []) ?_ (Sub.cons rfl (Sub.cons rfl (Sub.cons rfl (Sub.cons rfl (Sub.cons rfl (Sub.nil _)))))) (fun _ hw => hw) ?_
  · simp
  rintro ⟨out, aout, cout, Sout, k, m⟩ hI K hK3
  obtain ⟨hk, ho, hinv⟩ := hI
  show SC Try.prog 50 w0 _ _ [(3, .map (some B1)), (4, .slice aout out.length cout), (10, .slice al l.length cl), (11, .int .i64 (l.length : Int)), (12, .int .i64 (k : Int))] [own tLoad Sout aout cout out, mapE kInt Flight.veLoad B1 m, base w0]
  refine c_seq ?_
  refine c_region ?_
  refine o_pure (p_lt (p := (k : Int)) (q := (l.length : Int)) rfl rfl) rfl rfl rfl ?_
  refine o_nil ?_
  refine q_then ?_
  refine c_seq ?_
  refine c_cond (b := decide ((k : Int) < (l.length : Int))) rfl (fun hc4 => ?_) (fun hc4 => ?_)
  · simp only [decide_eq_true_eq] at hc4
    refine c_skip ?_
    refine q_then ?_
    refine c_seq ?_
    refine c_block ?_
    refine c_seq ?_
    refine c_region ?_
    refine o_pure (p_move (v := .int .i64 (k : Int)) rfl) rfl rfl rfl ?_
    refine o_pure (p_indexAddr (L := l) (T := tCall) (i := (k : Int)) rfl rfl (rd_base (i := 2) rfl hl) Try.underlying37 sz47 (by omega) (by omega)) rfl rfl rfl ?_
    refine o_pure (p_loadEn (i := k) (T := tCall) (L := l) (vs := [.int .i64 ((l[k]).key), .int .i64 ((l[k]).at_), .int .i64 ((l[k]).long)]) rfl (rd_base (i := 2) rfl hl) (by first | assumption | omega) sh47 rfl) rfl rfl rfl ?_
    refine o_alloc ze47 rfl (fun B5 => ?_)
    refine o_pure (p_assign (v := .int .i64 (k : Int)) rfl) rfl rfl rfl ?_
    refine o_storeN (i := 0) (vs := [.int .i64 ((l[k]).key), .int .i64 ((l[k]).at_), .int .i64 ((l[k]).long)]) (cs' := [.int .i64 ((l[k]).key), .int .i64 ((l[k]).at_), .int .i64 ((l[k]).long)]) rfl rfl rfl sz47 rfl rfl rfl rfl ?_
    refine o_nil ?_
    refine q_then ?_
    refine c_seq ?_
    refine c_region ?_
    refine o_pure (p_move (v := .map (some B1)) rfl) rfl rfl rfl ?_
    refine o_pure (p_fieldAddr (B := B5) (j := 0) (j' := 0) rfl fo47_0 rfl) rfl rfl rfl ?_
    refine o_pure (p_load (i := 0) (v := .int .i64 ((l[k]).key)) rfl rfl sh3 rfl) rfl rfl rfl ?_
    refine o_pure (p_lookup2 (i := 2) (K := kInt) (ve := Flight.veLoad) (m := m) (k := (l[k]).key) (dflt := Flight.dLoad) rfl rfl rfl Try.underlying75 Try.underlying3 zv72) rfl rfl rfl ?_
    refine o_pure (p_move (v := .tuple #[.agg #[.int .i64 (((AL.get m ((l[k]).key)).getD Flight.dLoad).who), .int .i64 (((AL.get m ((l[k]).key)).getD Flight.dLoad).ends)], .bool ((AL.get m ((l[k]).key)).isSome)]) rfl) rfl rfl rfl ?_
    refine o_pure (p_extract (vs := [.agg #[.int .i64 (((AL.get m ((l[k]).key)).getD Flight.dLoad).who), .int .i64 (((AL.get m ((l[k]).key)).getD Flight.dLoad).ends)], .bool ((AL.get m ((l[k]).key)).isSome)]) (v := .agg #[.int .i64 (((AL.get m ((l[k]).key)).getD Flight.dLoad).who), .int .i64 (((AL.get m ((l[k]).key)).getD Flight.dLoad).ends)]) rfl rfl) rfl rfl rfl ?_
    refine o_pure (p_extract (vs := [.agg #[.int .i64 (((AL.get m ((l[k]).key)).getD Flight.dLoad).who), .int .i64 (((AL.get m ((l[k]).key)).getD Flight.dLoad).ends)], .bool ((AL.get m ((l[k]).key)).isSome)]) (v := .bool ((AL.get m ((l[k]).key)).isSome)) rfl rfl) rfl rfl rfl ?_
    refine o_alloc ze72 rfl (fun B6 => ?_)
    refine o_storeN (i := 0) (vs := [.int .i64 (((AL.get m ((l[k]).key)).getD Flight.dLoad).who), .int .i64 (((AL.get m ((l[k]).key)).getD Flight.dLoad).ends)]) (cs' := [.int .i64 (((AL.get m ((l[k]).key)).getD Flight.dLoad).who), .int .i64 (((AL.get m ((l[k]).key)).getD Flight.dLoad).ends)]) rfl rfl rfl sz72 rfl rfl rfl rfl ?_
    refine o_pure (p_assign (v := .bool ((AL.get m ((l[k]).key)).isSome)) rfl) rfl rfl rfl ?_
    refine o_nil ?_
    refine q_then ?_
    refine c_seq ?_
    refine c_seq ?_
    refine c_region ?_
    refine o_pure (p_move (v := .bool ((AL.get m ((l[k]).key)).isSome)) rfl) rfl rfl rfl ?_
    refine o_pure (p_not (b := (AL.get m ((l[k]).key)).isSome) rfl) rfl rfl rfl ?_
    refine o_pure (p_move (v := .bool (!(AL.get m ((l[k]).key)).isSome)) rfl) rfl rfl rfl ?_
    refine o_or (p := 32) 6 (decide (((AL.get m ((l[k]).key)).getD Flight.dLoad).ends ≤ (l[k]).at_)) ?_ ?_ ?_
    · intro hb7 hk
      simp only [Bool.not_eq_false'] at hb7
      refine o_unguard 26 rfl rfl ?_
      refine o_pure (p_fieldAddr (B := B6) (j := 0) (j' := 1) rfl fo72_1 rfl) rfl rfl rfl ?_
      refine o_unguard 26 rfl rfl ?_
      refine o_pure (p_load (i := 0) (v := .int .i64 (((AL.get m ((l[k]).key)).getD Flight.dLoad).ends)) rfl rfl sh3 rfl) rfl rfl rfl ?_
      refine o_unguard 26 rfl rfl ?_
      refine o_pure (p_fieldAddr (B := B5) (j := 0) (j' := 1) rfl fo47_1 rfl) rfl rfl rfl ?_
      refine o_unguard 26 rfl rfl ?_
      refine o_pure (p_load (i := 1) (v := .int .i64 ((l[k]).at_)) rfl rfl sh3 rfl) rfl rfl rfl ?_
      refine o_unguard 26 rfl rfl ?_
      refine o_pure (p_le (p := ((AL.get m ((l[k]).key)).getD Flight.dLoad).ends) (q := (l[k]).at_) rfl rfl) rfl rfl rfl ?_
      refine o_pure (p_pick_false (v := .bool (decide (((AL.get m ((l[k]).key)).getD Flight.dLoad).ends ≤ (l[k]).at_))) rfl rfl) rfl rfl rfl ?_
      exact o_sub (Sub.cons rfl (Sub.skip rfl (Sub.skip rfl (Sub.skip rfl (Sub.skip rfl (Sub.skip rfl (Sub.skip rfl (Sub.skip rfl (Sub.refl _))))))))) hk
    · intro hb7 hk
      refine o_guard_no rfl 26 rfl rfl rfl rfl rfl ?_
      refine o_guard_no rfl 26 rfl rfl rfl rfl rfl ?_
      refine o_guard_no rfl 26 rfl rfl rfl rfl rfl ?_
      refine o_guard_no rfl 26 rfl rfl rfl rfl rfl ?_
      refine o_guard_no rfl 26 rfl rfl rfl rfl rfl ?_
      refine o_pure (p_pick_true (u := .bool true) rfl rfl) rfl rfl rfl ?_
      exact o_sub (Sub.cons rfl (Sub.skip rfl (Sub.skip rfl (Sub.skip rfl (Sub.skip rfl (Sub.skip rfl (Sub.skip rfl (Sub.skip rfl (Sub.refl _))))))))) hk
    refine o_nil ?_
    refine q_then ?_
    refine c_cond (b := ((!(AL.get m ((l[k]).key)).isSome) || decide (((AL.get m ((l[k]).key)).getD Flight.dLoad).ends ≤ (l[k]).at_))) rfl (fun hc8 => ?_) (fun hc8 => ?_)
    · simp only [Bool.or_eq_true, Bool.not_eq_true', decide_eq_true_eq] at hc8
      refine c_seq ?_
      refine c_region ?_
      refine o_pure (p_move (v := .int .i64 (k : Int)) rfl) rfl rfl rfl ?_
      refine o_pure (p_fieldAddr (B := B5) (j := 0) (j' := 1) rfl fo47_1 rfl) rfl rfl rfl ?_
      refine o_pure (p_load (i := 1) (v := .int .i64 ((l[k]).at_)) rfl rfl sh3 rfl) rfl rfl rfl ?_
      refine o_pure (p_fieldAddr (B := B5) (j := 0) (j' := 2) rfl fo47_2 rfl) rfl rfl rfl ?_
      refine o_pure (p_load (i := 1) (v := .int .i64 ((l[k]).long)) rfl rfl sh3 rfl) rfl rfl rfl ?_
      refine o_pure (p_add (p := (l[k]).at_) (q := (l[k]).long) rfl rfl) rfl rfl rfl ?_
      refine o_pure (p_build (cells := [.int .i64 (k : Int), .int .i64 (IntKind.i64.wrap ((l[k]).at_ + (l[k]).long))]) fp72 ze72 rfl rfl) rfl rfl rfl ?_
      refine o_storeN (i := 0) (vs := [.int .i64 (k : Int), .int .i64 (IntKind.i64.wrap ((l[k]).at_ + (l[k]).long))]) (cs' := [.int .i64 (k : Int), .int .i64 (IntKind.i64.wrap ((l[k]).at_ + (l[k]).long))]) rfl rfl rfl sz72 rfl rfl rfl rfl ?_
      refine o_nil ?_
      refine q_then ?_
      refine c_region ?_
      refine o_pure (p_move (v := .map (some B1)) rfl) rfl rfl rfl ?_
      refine o_pure (p_fieldAddr (B := B5) (j := 0) (j' := 0) rfl fo47_0 rfl) rfl rfl rfl ?_
      refine o_pure (p_load (i := 1) (v := .int .i64 ((l[k]).key)) rfl rfl sh3 rfl) rfl rfl rfl ?_
      refine o_pure (p_load_agg (i := 0) (vs := [.int .i64 (k : Int), .int .i64 (IntKind.i64.wrap ((l[k]).at_ + (l[k]).long))]) rfl rfl sh72 rfl rfl) rfl rfl rfl ?_
      refine o_mapUpdate (i := 3) (K := kInt) (ve := Flight.veLoad) (m := m) (k := (l[k]).key) (v := (⟨(k : Int), (IntKind.i64.wrap ((l[k]).at_ + (l[k]).long))⟩ : DLoad)) rfl rfl rfl rfl Try.underlying75 Try.underlying3 ?_
      refine o_nil ?_
      refine q_then ?_
      refine c_region ?_
      refine o_pure (p_move (v := .slice aout out.length cout) rfl) rfl rfl rfl ?_
      refine o_pure (p_load_agg (i := 0) (vs := [.int .i64 (k : Int), .int .i64 (IntKind.i64.wrap ((l[k]).at_ + (l[k]).long))]) rfl rfl sh72 rfl rfl) rfl rfl rfl ?_
      refine o_buildSlice (m := 1) (T := tLoad) (L := [(⟨(k : Int), (IntKind.i64.wrap ((l[k]).at_ + (l[k]).long))⟩ : DLoad)]) (vs := [.agg #[.int .i64 (k : Int), .int .i64 (IntKind.i64.wrap ((l[k]).at_ + (l[k]).long))]]) rfl rfl rfl rfl Try.underlying69 sz72 (by decide) ze72 rfl (by decide) rfl (fun S9 a10 => ?_)
      refine o_append (i := 3) (L := out) (M := [(⟨(k : Int), (IntKind.i64.wrap ((l[k]).at_ + (l[k]).long))⟩ : DLoad)]) (T := tLoad) rfl rfl rfl (rd_own (i := 0) rfl) Try.underlying69 Try.underlying69 (by intro k h; cases h) el72 (by intro z; simp [tLoad, one1]) (by decide) (by simp only [List.length_cons, List.length_nil]; omega) rfl (fun a12 c13 S14 => ?_)
      refine o_pure (p_assign (v := .slice a12 (out ++ [(⟨(k : Int), (IntKind.i64.wrap ((l[k]).at_ + (l[k]).long))⟩ : DLoad)]).length c13) rfl) rfl rfl rfl ?_
      refine o_nil ?_
      refine q_block_normal (q_then ?_)
      refine c_region ?_
      refine o_pure (p_addb (p := (k : Int)) (q := 1) rfl rfl (by omega)) rfl rfl rfl ?_
      refine o_pure (p_move (v := .int .i64 ((k : Int) + 1)) rfl) rfl rfl rfl ?_
      refine o_nil ?_
      refine q_round hK3 ((out ++ [(⟨(k : Int), (IntKind.i64.wrap ((l[k]).at_ + (l[k]).long))⟩ : DLoad)]), a12, c13, S14, k + 1, (AL.set m ((l[k]).key) (⟨(k : Int), (IntKind.i64.wrap ((l[k]).at_ + (l[k]).long))⟩ : DLoad))) ?_ ?_ ?_ ?_
      · clear hK3
        refine ⟨by omega, by simp; omega, ?_⟩
        have hk2 : k < l.length := by omega
        first | rw [Flight.planGo_new hk2 (by assumption)] at hinv | rw [Flight.planGo_old hk2 (by assumption)] at hinv
        simpa using hinv
      · (try dsimp only); omega
      · exact Sub.cons rfl (Sub.cons rfl (Sub.cons rfl (Sub.cons rfl (Sub.cons rfl (Sub.nil _)))))
      · exact fun _ hw => HeapIs.drop hw (List.Sublist.cons _ (List.Sublist.cons _ (List.Sublist.cons _ (List.Sublist.refl _))))
    · simp only [Bool.or_eq_false_iff, Bool.not_eq_false', decide_eq_false_iff_not, Int.not_le] at hc8
      refine c_skip ?_
      refine q_then ?_
      refine c_region ?_
      refine o_pure (p_move (v := .slice aout out.length cout) rfl) rfl rfl rfl ?_
      refine o_pure (p_load_agg (i := 0) (vs := [.int .i64 (((AL.get m ((l[k]).key)).getD Flight.dLoad).who), .int .i64 (((AL.get m ((l[k]).key)).getD Flight.dLoad).ends)]) rfl rfl sh72 rfl rfl) rfl rfl rfl ?_
      refine o_buildSlice (m := 1) (T := tLoad) (L := [(⟨((AL.get m ((l[k]).key)).getD Flight.dLoad).who, ((AL.get m ((l[k]).key)).getD Flight.dLoad).ends⟩ : DLoad)]) (vs := [.agg #[.int .i64 (((AL.get m ((l[k]).key)).getD Flight.dLoad).who), .int .i64 (((AL.get m ((l[k]).key)).getD Flight.dLoad).ends)]]) rfl rfl rfl rfl Try.underlying69 sz72 (by decide) ze72 rfl (by decide) rfl (fun S15 a16 => ?_)
      refine o_append (i := 3) (L := out) (M := [(⟨((AL.get m ((l[k]).key)).getD Flight.dLoad).who, ((AL.get m ((l[k]).key)).getD Flight.dLoad).ends⟩ : DLoad)]) (T := tLoad) rfl rfl rfl (rd_own (i := 0) rfl) Try.underlying69 Try.underlying69 (by intro k h; cases h) el72 (by intro z; simp [tLoad, one1]) (by decide) (by simp only [List.length_cons, List.length_nil]; omega) rfl (fun a18 c19 S20 => ?_)
      refine o_pure (p_assign (v := .slice a18 (out ++ [(⟨((AL.get m ((l[k]).key)).getD Flight.dLoad).who, ((AL.get m ((l[k]).key)).getD Flight.dLoad).ends⟩ : DLoad)]).length c19) rfl) rfl rfl rfl ?_
      refine o_nil ?_
      refine q_block_normal (q_then ?_)
      refine c_region ?_
      refine o_pure (p_addb (p := (k : Int)) (q := 1) rfl rfl (by omega)) rfl rfl rfl ?_
      refine o_pure (p_move (v := .int .i64 ((k : Int) + 1)) rfl) rfl rfl rfl ?_
      refine o_nil ?_
      refine q_round hK3 ((out ++ [(⟨((AL.get m ((l[k]).key)).getD Flight.dLoad).who, ((AL.get m ((l[k]).key)).getD Flight.dLoad).ends⟩ : DLoad)]), a18, c19, S20, k + 1, m) ?_ ?_ ?_ ?_
      · clear hK3
        refine ⟨by omega, by simp; omega, ?_⟩
        have hk2 : k < l.length := by omega
        first | rw [Flight.planGo_new hk2 (by assumption)] at hinv | rw [Flight.planGo_old hk2 (by assumption)] at hinv
        simpa using hinv
      · (try dsimp only); omega
      · exact Sub.cons rfl (Sub.cons rfl (Sub.cons rfl (Sub.cons rfl (Sub.cons rfl (Sub.nil _)))))
      · exact fun _ hw => HeapIs.drop hw (List.Sublist.cons _ (List.Sublist.cons _ (List.Sublist.cons _ (List.Sublist.refl _))))
  · simp only [decide_eq_false_iff_not, Int.not_lt] at hc4
    refine c_exit ?_
    refine q_then_exit (q_then_exit (q_block_exit (q_then ?_)))
    refine c_seq ?_
    refine c_region ?_
    refine o_pure (p_move (v := .slice aout out.length cout) rfl) rfl rfl rfl ?_
    refine o_pure (p_assign (v := .slice aout out.length cout) rfl) rfl rfl rfl ?_
    refine o_nil ?_
    refine q_then ?_
    refine c_ret ?_
    have hr0 : (out : List DLoad) = Flight.plan l := by
      rw [List.drop_of_length_le (by omega)] at hinv; simpa [Flight.planGo, Flight.plan] using hinv
    refine q_endM (p := (aout, cout)) Sout (rt1 rfl (r_tmp rfl)) (i := 2) rfl ?_ ?_ ?_
    · simp only [← hr0, List.length_nil]
    · exact fun w hw => hw.above (i := 2) (j := 0) (by decide) rfl rfl
    · intro w hw; exact by rw [← hr0]; have h := (hw.at (i := 0) rfl).here; exact h
end Go.Proofs.Ythbfdhphnofacaa
