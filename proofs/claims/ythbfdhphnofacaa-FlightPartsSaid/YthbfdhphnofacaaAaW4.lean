/- The walks, printed by a program from the translation and a specification. -/
import Derived.Test.YthbfdhphnofacaaAaF
import Derived.Test.YthbfdhphnofacaaFlPure
import Derived.Test.YthbfdhphnofacaaFlLaw
import Derived.Test.YthbfdhphnofacaaAaW1
namespace Go.Proofs.Ythbfdhphnofacaa
open Go.Sx Go.RowKit
set_option maxHeartbeats 8000000 in
set_option maxRecDepth 100000 in
theorem sameInts_ok (a : List Int) (aa : Option Addr) (ca : Nat) (b : List Int) (ab : Option Addr) (cb : Nat) : Fn0 Try.prog 31 [.slice aa a.length ca, .slice ab b.length cb] (fun w => Rd tInt w aa ca a ∧ Rd tInt w ab cb b) (.bool (Ref.sameInts a b)) := by
  refine fn0 (nt := 26) (F0 := [(0, .slice aa a.length ca), (1, .slice ab b.length cb)]) Try.func31 rfl Try.ntmps31 rfl rfl (fun w0 hpre => ?_)
  obtain ⟨ha, hb⟩ := hpre
  have hla := ha.2.1
  have hlb := hb.2.1
  refine c_seq ?_
  refine c_region ?_
  refine o_pure (p_assign (v := .bool false) rfl) rfl rfl rfl ?_
  refine o_nil ?_
  refine q_then ?_
  refine c_seq ?_
  refine c_seq ?_
  refine c_region ?_
  refine o_pure (p_move (v := .slice aa a.length ca) rfl) rfl rfl rfl ?_
  refine o_pure (p_len_slice (len := a.length) rfl rfl Try.underlying38) rfl rfl rfl ?_
  refine o_pure (p_move (v := .slice ab b.length cb) rfl) rfl rfl rfl ?_
  refine o_pure (p_len_slice (len := b.length) rfl rfl Try.underlying38) rfl rfl rfl ?_
  refine o_pure (p_ne (p := (a.length : Int)) (q := (b.length : Int)) rfl rfl) rfl rfl rfl ?_
  refine o_nil ?_
  refine q_then ?_
  refine c_cond (b := ((a.length : Int) != (b.length : Int))) rfl (fun hc1 => ?_) (fun hc1 => ?_)
  · simp only [bne_iff_ne, ne_eq] at hc1
    refine c_seq ?_
    refine c_region ?_
    refine o_pure (p_assign (v := .bool false) rfl) rfl rfl rfl ?_
    refine o_nil ?_
    refine q_then ?_
    refine c_ret ?_
    refine q_then_ret ?_
    refine q_end0 (v := .bool false) (rt1 rfl (r_tmp rfl)) (i := 0) rfl ?_
    congr 1
    simp only [Ref.sameInts]
    grind [List.ext_getElem]
  · simp only [bne_eq_false_iff_eq] at hc1
    refine c_skip ?_
    refine q_then ?_
    refine c_seq ?_
    refine c_seq ?_
    refine c_region ?_
    refine o_pure (p_assign (v := .int .i64 0) rfl) rfl rfl rfl ?_
    refine o_nil ?_
    refine q_then ?_
    refine c_block ?_
    refine c_loop (St := Nat)
      (fun i => [(0, .slice aa a.length ca), (1, .slice ab b.length cb), (5, .int .i64 (i : Int))])
      (fun i => [base w0])
      (fun i => i ≤ a.length ∧ ∀ j (h1 : j < a.length) (h2 : j < b.length), j < i → a[j] = b[j])
      (fun i => a.length - i)
      0 ?_ (Sub.cons rfl (Sub.cons rfl (Sub.cons rfl (Sub.nil _)))) (fun _ hw => hw) ?_
    · simp
    rintro i hI K hK2
    obtain ⟨hi, hinv⟩ := hI
    show SC Try.prog 26 w0 _ _ [(0, .slice aa a.length ca), (1, .slice ab b.length cb), (5, .int .i64 (i : Int))] [base w0]
    refine c_seq ?_
    refine c_seq ?_
    refine c_region ?_
    refine o_pure (p_move (v := .int .i64 (i : Int)) rfl) rfl rfl rfl ?_
    refine o_pure (p_move (v := .slice aa a.length ca) rfl) rfl rfl rfl ?_
    refine o_pure (p_len_slice (len := a.length) rfl rfl Try.underlying38) rfl rfl rfl ?_
    refine o_pure (p_lt (p := (i : Int)) (q := (a.length : Int)) rfl rfl) rfl rfl rfl ?_
    refine o_nil ?_
    refine q_then ?_
    refine c_cond (b := decide ((i : Int) < (a.length : Int))) rfl (fun hc3 => ?_) (fun hc3 => ?_)
    · simp only [decide_eq_true_eq] at hc3
      refine c_skip ?_
      refine q_then ?_
      refine c_seq ?_
      refine c_block ?_
      refine c_seq ?_
      refine c_draw hmix (by kernel_rfl) ?_
      refine w_pure (p_move (v := .slice aa a.length ca) rfl) rfl rfl rfl ?_
      refine w_pure (p_move (v := .int .i64 (i : Int)) rfl) rfl rfl rfl ?_
      refine w_pure (p_indexAddr (L := a) (T := tInt) (i := (i : Int)) rfl rfl (rd_base (i := 0) rfl ha) Try.underlying38 sz3 (by omega) (by omega)) rfl rfl rfl ?_
      refine w_pure (p_loadE1 (i := i) (T := tInt) (L := a) (v := .int .i64 (a[i])) rfl (rd_base (i := 0) rfl ha) (by first | assumption | omega) sh3 rfl) rfl rfl rfl ?_
      refine w_pure (p_move (v := .slice ab b.length cb) rfl) rfl rfl rfl ?_
      refine w_pure (p_move (v := .int .i64 (i : Int)) rfl) rfl rfl rfl ?_
      refine w_pure (p_indexAddr (L := b) (T := tInt) (i := (i : Int)) rfl rfl (rd_base (i := 0) rfl hb) Try.underlying38 sz3 (by omega) (by omega)) rfl rfl rfl ?_
      refine w_pure (p_loadE1 (i := i) (T := tInt) (L := b) (v := .int .i64 (b[i])) rfl (rd_base (i := 0) rfl hb) (by first | assumption | omega) sh3 rfl) rfl rfl rfl ?_
      refine w_pure (p_ne (p := a[i]) (q := b[i]) rfl rfl) rfl rfl rfl ?_
      refine w_nil ?_
      refine q_then ?_
      refine c_cond (b := (a[i] != b[i])) rfl (fun hc4 => ?_) (fun hc4 => ?_)
      · simp only [bne_iff_ne, ne_eq] at hc4
        refine c_seq ?_
        refine c_region ?_
        refine o_pure (p_assign (v := .bool false) rfl) rfl rfl rfl ?_
        refine o_nil ?_
        refine q_then ?_
        refine c_ret ?_
        refine q_block_ret (q_then_ret (q_then_ret (q_block_ret (q_then_ret ?_))))
        refine q_end0 (v := .bool false) (rt1 rfl (r_tmp rfl)) (i := 0) rfl ?_
        congr 1
        simp only [Ref.sameInts]
        grind [List.ext_getElem]
      · simp only [bne_eq_false_iff_eq] at hc4
        refine c_skip ?_
        refine q_block_normal (q_then ?_)
        refine c_region ?_
        refine o_pure (p_move (v := .int .i64 (i : Int)) rfl) rfl rfl rfl ?_
        refine o_pure (p_addb (p := (i : Int)) (q := 1) rfl rfl (by omega)) rfl rfl rfl ?_
        refine o_pure (p_assign (v := .int .i64 ((i : Int) + 1)) rfl) rfl rfl rfl ?_
        refine o_nil ?_
        refine q_round hK2 (i + 1) ?_ ?_ ?_ ?_
        · clear hK2
          refine ⟨by omega, ?_⟩
          grind
        · (try dsimp only); omega
        · exact Sub.cons rfl (Sub.cons rfl (Sub.cons rfl (Sub.nil _)))
        · exact fun _ hw => HeapIs.drop hw (List.Sublist.refl _)
    · simp only [decide_eq_false_iff_not, Int.not_lt] at hc3
      refine c_exit ?_
      refine q_then_exit (q_then_exit (q_block_exit (q_then ?_)))
      refine c_seq ?_
      refine c_region ?_
      refine o_pure (p_assign (v := .bool true) rfl) rfl rfl rfl ?_
      refine o_nil ?_
      refine q_then ?_
      refine c_ret ?_
      refine q_end0 (v := .bool true) (rt1 rfl (r_tmp rfl)) (i := 0) rfl ?_
      congr 1
      simp only [Ref.sameInts]
      grind [List.ext_getElem]

set_option maxHeartbeats 8000000 in
set_option maxRecDepth 100000 in
theorem hasInt_ok (l : List Int) (al : Option Addr) (cl : Nat) (n : Int) : Fn0 Try.prog 32 [.slice al l.length cl, .int .i64 n] (fun w => Rd tInt w al cl l) (.bool (Ref.hasInt l n)) := by
  refine fn0 (nt := 18) (F0 := [(0, .slice al l.length cl), (1, .int .i64 n)]) Try.func32 rfl Try.ntmps32 rfl rfl (fun w0 hpre => ?_)
  have hl := hpre
  have hll := hl.2.1
  refine c_seq ?_
  refine c_region ?_
  refine o_pure (p_assign (v := .bool false) rfl) rfl rfl rfl ?_
  refine o_nil ?_
  refine q_then ?_
  refine c_seq ?_
  refine c_seq ?_
  refine c_region ?_
  refine o_pure (p_assign (v := .int .i64 0) rfl) rfl rfl rfl ?_
  refine o_nil ?_
  refine q_then ?_
  refine c_block ?_
  refine c_loop (St := Nat)
    (fun i => [(0, .slice al l.length cl), (1, .int .i64 n), (5, .int .i64 (i : Int))])
    (fun i => [base w0])
    (fun i => i ≤ l.length ∧ ∀ j (h1 : j < l.length), j < i → l[j] ≠ n)
    (fun i => l.length - i)
    0 ?_ (Sub.cons rfl (Sub.cons rfl (Sub.cons rfl (Sub.nil _)))) (fun _ hw => hw) ?_
  · simp
  rintro i hI K hK1
  obtain ⟨hi, hinv⟩ := hI
  show SC Try.prog 18 w0 _ _ [(0, .slice al l.length cl), (1, .int .i64 n), (5, .int .i64 (i : Int))] [base w0]
  refine c_seq ?_
  refine c_seq ?_
  refine c_region ?_
  refine o_pure (p_move (v := .int .i64 (i : Int)) rfl) rfl rfl rfl ?_
  refine o_pure (p_move (v := .slice al l.length cl) rfl) rfl rfl rfl ?_
  refine o_pure (p_len_slice (len := l.length) rfl rfl Try.underlying38) rfl rfl rfl ?_
  refine o_pure (p_lt (p := (i : Int)) (q := (l.length : Int)) rfl rfl) rfl rfl rfl ?_
  refine o_nil ?_
  refine q_then ?_
  refine c_cond (b := decide ((i : Int) < (l.length : Int))) rfl (fun hc2 => ?_) (fun hc2 => ?_)
  · simp only [decide_eq_true_eq] at hc2
    refine c_skip ?_
    refine q_then ?_
    refine c_seq ?_
    refine c_block ?_
    refine c_seq ?_
    refine c_region ?_
    refine o_pure (p_move (v := .slice al l.length cl) rfl) rfl rfl rfl ?_
    refine o_pure (p_move (v := .int .i64 (i : Int)) rfl) rfl rfl rfl ?_
    refine o_pure (p_indexAddr (L := l) (T := tInt) (i := (i : Int)) rfl rfl (rd_base (i := 0) rfl hl) Try.underlying38 sz3 (by omega) (by omega)) rfl rfl rfl ?_
    refine o_pure (p_loadE1 (i := i) (T := tInt) (L := l) (v := .int .i64 (l[i])) rfl (rd_base (i := 0) rfl hl) (by first | assumption | omega) sh3 rfl) rfl rfl rfl ?_
    refine o_pure (p_move (v := .int .i64 n) rfl) rfl rfl rfl ?_
    refine o_pure (p_eq (p := l[i]) (q := n) rfl rfl) rfl rfl rfl ?_
    refine o_nil ?_
    refine q_then ?_
    refine c_cond (b := (l[i] == n)) rfl (fun hc3 => ?_) (fun hc3 => ?_)
    · simp only [beq_iff_eq] at hc3
      refine c_seq ?_
      refine c_region ?_
      refine o_pure (p_assign (v := .bool true) rfl) rfl rfl rfl ?_
      refine o_nil ?_
      refine q_then ?_
      refine c_ret ?_
      refine q_block_ret (q_then_ret (q_then_ret (q_block_ret (q_then_ret ?_))))
      refine q_end0 (v := .bool true) (rt1 rfl (r_tmp rfl)) (i := 0) rfl ?_
      congr 1
      simp only [Ref.hasInt]
      grind [List.mem_iff_getElem]
    · simp only [beq_eq_false_iff_ne, ne_eq] at hc3
      refine c_skip ?_
      refine q_block_normal (q_then ?_)
      refine c_region ?_
      refine o_pure (p_move (v := .int .i64 (i : Int)) rfl) rfl rfl rfl ?_
      refine o_pure (p_addb (p := (i : Int)) (q := 1) rfl rfl (by omega)) rfl rfl rfl ?_
      refine o_pure (p_assign (v := .int .i64 ((i : Int) + 1)) rfl) rfl rfl rfl ?_
      refine o_nil ?_
      refine q_round hK1 (i + 1) ?_ ?_ ?_ ?_
      · clear hK1
        refine ⟨by omega, ?_⟩
        grind
      · (try dsimp only); omega
      · exact Sub.cons rfl (Sub.cons rfl (Sub.cons rfl (Sub.nil _)))
      · exact fun _ hw => HeapIs.drop hw (List.Sublist.refl _)
  · simp only [decide_eq_false_iff_not, Int.not_lt] at hc2
    refine c_exit ?_
    refine q_then_exit (q_then_exit (q_block_exit (q_then ?_)))
    refine c_seq ?_
    refine c_region ?_
    refine o_pure (p_assign (v := .bool false) rfl) rfl rfl rfl ?_
    refine o_nil ?_
    refine q_then ?_
    refine c_ret ?_
    refine q_end0 (v := .bool false) (rt1 rfl (r_tmp rfl)) (i := 0) rfl ?_
    congr 1
    simp only [Ref.hasInt]
    grind [List.mem_iff_getElem]

set_option maxHeartbeats 8000000 in
set_option maxRecDepth 100000 in
theorem crowdCheck_ok (l : List DCall) (al : Option Addr) (cl : Nat) : Fn0 Try.prog 27 [.slice al l.length cl] (fun w => Rd tCall w al cl l) (.int .i64 (Flight.check l)) := by
  refine fn0 (nt := 54) (F0 := [(0, .slice al l.length cl)]) Try.func27 rfl Try.ntmps27 rfl rfl (fun w0 hpre => ?_)
  have hl := hpre
  have hll := hl.2.1
  refine c_seq ?_
  refine c_region ?_
  refine o_pure (p_assign (v := .int .i64 0) rfl) rfl rfl rfl ?_
  refine o_nil ?_
  refine q_then ?_
  refine c_seq ?_
  refine c_seq ?_
  refine c_region ?_
  refine o_pure (p_move (v := .slice al l.length cl) rfl) rfl rfl rfl ?_
  refine o_pure (p_len_slice (len := l.length) rfl rfl Try.underlying37) rfl rfl rfl ?_
  refine o_pure (p_gt (p := (l.length : Int)) (q := 60) rfl rfl) rfl rfl rfl ?_
  refine o_nil ?_
  refine q_then ?_
  refine c_cond (b := decide (60 < (l.length : Int))) rfl (fun hc1 => ?_) (fun hc1 => ?_)
  · simp only [decide_eq_true_eq] at hc1
    refine c_seq ?_
    refine c_region ?_
    refine o_pure (p_assign (v := .int .i64 2) rfl) rfl rfl rfl ?_
    refine o_nil ?_
    refine q_then ?_
    refine c_ret ?_
    refine q_then_ret ?_
    refine q_end0 (v := .int .i64 2) (rt1 rfl (r_tmp rfl)) (i := 0) rfl ?_
    congr 1
    grind [Flight.check, Flight.checkFrom, Flight.bad, Lru.okKey, Ref.between, List.drop_eq_getElem_cons]
  · simp only [decide_eq_false_iff_not, Int.not_lt] at hc1
    refine c_skip ?_
    refine q_then ?_
    refine c_seq ?_
    refine c_seq ?_
    refine c_region ?_
    refine o_pure (p_assign (v := .int .i64 0) rfl) rfl rfl rfl ?_
    refine o_nil ?_
    refine q_then ?_
    refine c_block ?_
    refine c_loop (St := Nat)
      (fun i => [(0, .slice al l.length cl), (3, .int .i64 (i : Int))])
      (fun i => [base w0])
      (fun i => i ≤ l.length ∧ ∃ last, (i = 0 → last = 0) ∧ (∀ h : 0 < i ∧ i ≤ l.length, last = (l[((i : Int) - 1).toNat]'(by omega)).at_) ∧ Flight.checkFrom last (l.drop i) = Flight.checkFrom 0 l)
      (fun i => l.length - i)
      0 ?_ (Sub.cons rfl (Sub.cons rfl (Sub.nil _))) (fun _ hw => hw) ?_
    · exact ⟨by omega, 0, by simp, by simp, rfl⟩
    rintro i hI K hK2
    obtain ⟨hi, last, hl0, hl1, hinv⟩ := hI
    show SC Try.prog 54 w0 _ _ [(0, .slice al l.length cl), (3, .int .i64 (i : Int))] [base w0]
    refine c_seq ?_
    refine c_seq ?_
    refine c_region ?_
    refine o_pure (p_move (v := .int .i64 (i : Int)) rfl) rfl rfl rfl ?_
    refine o_pure (p_move (v := .slice al l.length cl) rfl) rfl rfl rfl ?_
    refine o_pure (p_len_slice (len := l.length) rfl rfl Try.underlying37) rfl rfl rfl ?_
    refine o_pure (p_lt (p := (i : Int)) (q := (l.length : Int)) rfl rfl) rfl rfl rfl ?_
    refine o_nil ?_
    refine q_then ?_
    refine c_cond (b := decide ((i : Int) < (l.length : Int))) rfl (fun hc3 => ?_) (fun hc3 => ?_)
    · simp only [decide_eq_true_eq] at hc3
      refine c_skip ?_
      refine q_then ?_
      refine c_seq ?_
      refine c_block ?_
      refine c_seq ?_
      refine c_seq ?_
      refine c_region ?_
      refine o_pure (p_move (v := .slice al l.length cl) rfl) rfl rfl rfl ?_
      refine o_pure (p_move (v := .int .i64 (i : Int)) rfl) rfl rfl rfl ?_
      refine o_pure (p_indexAddr (L := l) (T := tCall) (i := (i : Int)) rfl rfl (rd_base (i := 0) rfl hl) Try.underlying37 sz47 (by omega) (by omega)) rfl rfl rfl ?_
      refine o_pure (p_fieldAddrE rfl fo47_0) rfl rfl rfl ?_
      refine o_pure (p_loadF (i := i) (j := 0) (T := tCall) (L := l) (v := .int .i64 ((l[i]).key)) rfl (rd_base (i := 0) rfl hl) (by first | assumption | omega) sh3 rfl) rfl rfl rfl ?_
      refine o_call0 (v := .bool (Ref.between ((l[i]).key) 0 1048576)) rfl (between_ok ((l[i]).key) 0 1048576) hf49 (fun _ _ => trivial) rfl ?_
      refine o_pure (p_not (b := (Ref.between ((l[i]).key) 0 1048576)) rfl) rfl rfl rfl ?_
      refine o_pure (p_move (v := .bool (!(Ref.between ((l[i]).key) 0 1048576))) rfl) rfl rfl rfl ?_
      refine o_or (p := 28) 8 (!(Ref.between ((l[i]).at_) 0 1099511627776)) ?_ ?_ ?_
      · intro hb4 hk
        simp only [Bool.not_eq_false'] at hb4
        refine o_unguard 20 rfl rfl ?_
        refine o_pure (p_move (v := .slice al l.length cl) rfl) rfl rfl rfl ?_
        refine o_unguard 20 rfl rfl ?_
        refine o_pure (p_move (v := .int .i64 (i : Int)) rfl) rfl rfl rfl ?_
        refine o_unguard 20 rfl rfl ?_
        refine o_pure (p_indexAddr (L := l) (T := tCall) (i := (i : Int)) rfl rfl (rd_base (i := 0) rfl hl) Try.underlying37 sz47 (by omega) (by omega)) rfl rfl rfl ?_
        refine o_unguard 20 rfl rfl ?_
        refine o_pure (p_fieldAddrE rfl fo47_1) rfl rfl rfl ?_
        refine o_unguard 20 rfl rfl ?_
        refine o_pure (p_loadF (i := i) (j := 1) (T := tCall) (L := l) (v := .int .i64 ((l[i]).at_)) rfl (rd_base (i := 0) rfl hl) (by first | assumption | omega) sh3 rfl) rfl rfl rfl ?_
        refine o_unguard 20 rfl rfl ?_
        refine o_call0 (v := .bool (Ref.between ((l[i]).at_) 0 1099511627776)) rfl (between_ok ((l[i]).at_) 0 1099511627776) hf49 (fun _ _ => trivial) rfl ?_
        refine o_unguard 20 rfl rfl ?_
        refine o_pure (p_not (b := (Ref.between ((l[i]).at_) 0 1099511627776)) rfl) rfl rfl rfl ?_
        refine o_pure (p_pick_false (v := .bool (!(Ref.between ((l[i]).at_) 0 1099511627776))) rfl rfl) rfl rfl rfl ?_
        exact o_sub (Sub.cons rfl (Sub.skip rfl (Sub.skip rfl (Sub.skip rfl (Sub.skip rfl (Sub.skip rfl (Sub.skip rfl (Sub.skip rfl (Sub.skip rfl (Sub.skip rfl (Sub.refl _))))))))))) hk
      · intro hb4 hk
        refine o_guard_no rfl 20 rfl rfl rfl rfl rfl ?_
        refine o_guard_no rfl 20 rfl rfl rfl rfl rfl ?_
        refine o_guard_no rfl 20 rfl rfl rfl rfl rfl ?_
        refine o_guard_no rfl 20 rfl rfl rfl rfl rfl ?_
        refine o_guard_no rfl 20 rfl rfl rfl rfl rfl ?_
        refine o_guard_no rfl 20 rfl rfl rfl rfl rfl ?_
        refine o_guard_no rfl 20 rfl rfl rfl rfl rfl ?_
        refine o_pure (p_pick_true (u := .bool true) rfl rfl) rfl rfl rfl ?_
        exact o_sub (Sub.cons rfl (Sub.skip rfl (Sub.skip rfl (Sub.skip rfl (Sub.skip rfl (Sub.skip rfl (Sub.skip rfl (Sub.skip rfl (Sub.skip rfl (Sub.skip rfl (Sub.refl _))))))))))) hk
      refine o_pure (p_move (v := .bool ((!(Ref.between ((l[i]).key) 0 1048576)) || (!(Ref.between ((l[i]).at_) 0 1099511627776)))) rfl) rfl rfl rfl ?_
      refine o_or (p := 37) 8 (!(Ref.between ((l[i]).long) 1 1073741824)) ?_ ?_ ?_
      · intro hb5 hk
        simp only [Bool.or_eq_false_iff, Bool.not_eq_false'] at hb5
        refine o_unguard 29 rfl rfl ?_
        refine o_pure (p_move (v := .slice al l.length cl) rfl) rfl rfl rfl ?_
        refine o_unguard 29 rfl rfl ?_
        refine o_pure (p_move (v := .int .i64 (i : Int)) rfl) rfl rfl rfl ?_
        refine o_unguard 29 rfl rfl ?_
        refine o_pure (p_indexAddr (L := l) (T := tCall) (i := (i : Int)) rfl rfl (rd_base (i := 0) rfl hl) Try.underlying37 sz47 (by omega) (by omega)) rfl rfl rfl ?_
        refine o_unguard 29 rfl rfl ?_
        refine o_pure (p_fieldAddrE rfl fo47_2) rfl rfl rfl ?_
        refine o_unguard 29 rfl rfl ?_
        refine o_pure (p_loadF (i := i) (j := 2) (T := tCall) (L := l) (v := .int .i64 ((l[i]).long)) rfl (rd_base (i := 0) rfl hl) (by first | assumption | omega) sh3 rfl) rfl rfl rfl ?_
        refine o_unguard 29 rfl rfl ?_
        refine o_call0 (v := .bool (Ref.between ((l[i]).long) 1 1073741824)) rfl (between_ok ((l[i]).long) 1 1073741824) hf49 (fun _ _ => trivial) rfl ?_
        refine o_unguard 29 rfl rfl ?_
        refine o_pure (p_not (b := (Ref.between ((l[i]).long) 1 1073741824)) rfl) rfl rfl rfl ?_
        refine o_pure (p_pick_false (v := .bool (!(Ref.between ((l[i]).long) 1 1073741824))) rfl rfl) rfl rfl rfl ?_
        exact o_sub (Sub.cons rfl (Sub.skip rfl (Sub.skip rfl (Sub.skip rfl (Sub.skip rfl (Sub.skip rfl (Sub.skip rfl (Sub.skip rfl (Sub.skip rfl (Sub.skip rfl (Sub.refl _))))))))))) hk
      · intro hb5 hk
        refine o_guard_no rfl 29 rfl rfl rfl rfl rfl ?_
        refine o_guard_no rfl 29 rfl rfl rfl rfl rfl ?_
        refine o_guard_no rfl 29 rfl rfl rfl rfl rfl ?_
        refine o_guard_no rfl 29 rfl rfl rfl rfl rfl ?_
        refine o_guard_no rfl 29 rfl rfl rfl rfl rfl ?_
        refine o_guard_no rfl 29 rfl rfl rfl rfl rfl ?_
        refine o_guard_no rfl 29 rfl rfl rfl rfl rfl ?_
        refine o_pure (p_pick_true (u := .bool true) rfl rfl) rfl rfl rfl ?_
        exact o_sub (Sub.cons rfl (Sub.skip rfl (Sub.skip rfl (Sub.skip rfl (Sub.skip rfl (Sub.skip rfl (Sub.skip rfl (Sub.skip rfl (Sub.skip rfl (Sub.skip rfl (Sub.refl _))))))))))) hk
      refine o_nil ?_
      refine q_then ?_
      refine c_cond (b := (((!(Ref.between ((l[i]).key) 0 1048576)) || (!(Ref.between ((l[i]).at_) 0 1099511627776))) || (!(Ref.between ((l[i]).long) 1 1073741824)))) rfl (fun hc6 => ?_) (fun hc6 => ?_)
      · simp only [Bool.or_eq_true, Bool.not_eq_true'] at hc6
        refine c_seq ?_
        refine c_region ?_
        refine o_pure (p_assign (v := .int .i64 3) rfl) rfl rfl rfl ?_
        refine o_nil ?_
        refine q_then ?_
        refine c_ret ?_
        refine q_then_ret (q_block_ret (q_then_ret (q_then_ret (q_block_ret (q_then_ret ?_)))))
        refine q_end0 (v := .int .i64 3) (rt1 rfl (r_tmp rfl)) (i := 0) rfl ?_
        congr 1
        grind [Flight.check, Flight.checkFrom, Flight.bad, Lru.okKey, Ref.between, List.drop_eq_getElem_cons]
      · simp only [Bool.or_eq_false_iff, Bool.not_eq_false'] at hc6
        refine c_skip ?_
        refine q_then ?_
        refine c_seq ?_
        refine c_draw hmix (by kernel_rfl) ?_
        refine w_pure (p_move (v := .int .i64 (i : Int)) rfl) rfl rfl rfl ?_
        refine w_pure (p_gt (p := (i : Int)) (q := 0) rfl rfl) rfl rfl rfl ?_
        refine w_pure (p_move (v := .bool (decide (0 < (i : Int)))) rfl) rfl rfl rfl ?_
        refine w_and (p := 53) 13 (decide ((l[i]).at_ < (l[((i : Int) - 1).toNat]).at_)) ?_ ?_ ?_
        · intro hb7 hk
          simp only [decide_eq_true_eq] at hb7
          refine w_unguard 40 rfl rfl ?_
          refine w_pure (p_move (v := .slice al l.length cl) rfl) rfl rfl rfl ?_
          refine w_unguard 40 rfl rfl ?_
          refine w_pure (p_move (v := .int .i64 (i : Int)) rfl) rfl rfl rfl ?_
          refine w_unguard 40 rfl rfl ?_
          refine w_pure (p_indexAddr (L := l) (T := tCall) (i := (i : Int)) rfl rfl (rd_base (i := 0) rfl hl) Try.underlying37 sz47 (by omega) (by omega)) rfl rfl rfl ?_
          refine w_unguard 40 rfl rfl ?_
          refine w_pure (p_fieldAddrE rfl fo47_1) rfl rfl rfl ?_
          refine w_unguard 40 rfl rfl ?_
          refine w_pure (p_loadF (i := i) (j := 1) (T := tCall) (L := l) (v := .int .i64 ((l[i]).at_)) rfl (rd_base (i := 0) rfl hl) (by first | assumption | omega) sh3 rfl) rfl rfl rfl ?_
          refine w_unguard 40 rfl rfl ?_
          refine w_pure (p_move (v := .slice al l.length cl) rfl) rfl rfl rfl ?_
          refine w_unguard 40 rfl rfl ?_
          refine w_pure (p_move (v := .int .i64 (i : Int)) rfl) rfl rfl rfl ?_
          refine w_unguard 40 rfl rfl ?_
          refine w_pure (p_subb (p := (i : Int)) (q := 1) rfl rfl (by omega)) rfl rfl rfl ?_
          refine w_unguard 40 rfl rfl ?_
          refine w_pure (p_indexAddr (L := l) (T := tCall) (i := ((i : Int) - 1)) rfl rfl (rd_base (i := 0) rfl hl) Try.underlying37 sz47 (by omega) (by omega)) rfl rfl rfl ?_
          refine w_unguard 40 rfl rfl ?_
          refine w_pure (p_fieldAddrE rfl fo47_1) rfl rfl rfl ?_
          refine w_unguard 40 rfl rfl ?_
          refine w_pure (p_loadF (i := ((i : Int) - 1).toNat) (j := 1) (T := tCall) (L := l) (v := .int .i64 ((l[((i : Int) - 1).toNat]).at_)) rfl (rd_base (i := 0) rfl hl) (by first | assumption | omega) sh3 rfl) rfl rfl rfl ?_
          refine w_unguard 40 rfl rfl ?_
          refine w_pure (p_lt (p := (l[i]).at_) (q := (l[((i : Int) - 1).toNat]).at_) rfl rfl) rfl rfl rfl ?_
          refine w_pure (p_pick_true (u := .bool (decide ((l[i]).at_ < (l[((i : Int) - 1).toNat]).at_))) rfl rfl) rfl rfl rfl ?_
          exact w_sub (Sub.cons rfl (Sub.skip rfl (Sub.skip rfl (Sub.skip rfl (Sub.skip rfl (Sub.skip rfl (Sub.skip rfl (Sub.skip rfl (Sub.skip rfl (Sub.skip rfl (Sub.skip rfl (Sub.skip rfl (Sub.skip rfl (Sub.skip rfl (Sub.skip rfl (Sub.refl _)))))))))))))))) hk
        · intro hb7 hk
          refine w_guard_no rfl 40 rfl rfl rfl rfl rfl ?_
          refine w_guard_no rfl 40 rfl rfl rfl rfl rfl ?_
          refine w_guard_no rfl 40 rfl rfl rfl rfl rfl ?_
          refine w_guard_no rfl 40 rfl rfl rfl rfl rfl ?_
          refine w_guard_no rfl 40 rfl rfl rfl rfl rfl ?_
          refine w_guard_no rfl 40 rfl rfl rfl rfl rfl ?_
          refine w_guard_no rfl 40 rfl rfl rfl rfl rfl ?_
          refine w_guard_no rfl 40 rfl rfl rfl rfl rfl ?_
          refine w_guard_no rfl 40 rfl rfl rfl rfl rfl ?_
          refine w_guard_no rfl 40 rfl rfl rfl rfl rfl ?_
          refine w_guard_no rfl 40 rfl rfl rfl rfl rfl ?_
          refine w_guard_no rfl 40 rfl rfl rfl rfl rfl ?_
          refine w_pure (p_pick_false (v := .bool false) rfl rfl) rfl rfl rfl ?_
          exact w_sub (Sub.cons rfl (Sub.skip rfl (Sub.skip rfl (Sub.skip rfl (Sub.skip rfl (Sub.skip rfl (Sub.skip rfl (Sub.skip rfl (Sub.skip rfl (Sub.skip rfl (Sub.skip rfl (Sub.skip rfl (Sub.skip rfl (Sub.skip rfl (Sub.skip rfl (Sub.refl _)))))))))))))))) hk
        refine w_nil ?_
        refine q_then ?_
        refine c_cond (b := (decide (0 < (i : Int)) && decide ((l[i]).at_ < (l[((i : Int) - 1).toNat]).at_))) rfl (fun hc8 => ?_) (fun hc8 => ?_)
        · simp only [Bool.and_eq_true, decide_eq_true_eq] at hc8
          refine c_seq ?_
          refine c_region ?_
          refine o_pure (p_assign (v := .int .i64 4) rfl) rfl rfl rfl ?_
          refine o_nil ?_
          refine q_then ?_
          refine c_ret ?_
          refine q_block_ret (q_then_ret (q_then_ret (q_block_ret (q_then_ret ?_))))
          refine q_end0 (v := .int .i64 4) (rt1 rfl (r_tmp rfl)) (i := 0) rfl ?_
          congr 1
          grind [Flight.check, Flight.checkFrom, Flight.bad, Lru.okKey, Ref.between, List.drop_eq_getElem_cons]
        · simp only [Bool.and_eq_false_iff, decide_eq_false_iff_not, Int.not_lt] at hc8
          refine c_skip ?_
          refine q_block_normal (q_then ?_)
          refine c_region ?_
          refine o_pure (p_move (v := .int .i64 (i : Int)) rfl) rfl rfl rfl ?_
          refine o_pure (p_addb (p := (i : Int)) (q := 1) rfl rfl (by omega)) rfl rfl rfl ?_
          refine o_pure (p_assign (v := .int .i64 ((i : Int) + 1)) rfl) rfl rfl rfl ?_
          refine o_nil ?_
          refine q_round hK2 (i + 1) ?_ ?_ ?_ ?_
          · clear hK2
            refine ⟨by omega, l[i].at_, by omega, by simp, ?_⟩
            grind [Flight.check, Flight.checkFrom, Flight.bad, Lru.okKey, Ref.between, List.drop_eq_getElem_cons]
          · (try dsimp only); omega
          · exact Sub.cons rfl (Sub.cons rfl (Sub.nil _))
          · exact fun _ hw => HeapIs.drop hw (List.Sublist.refl _)
    · simp only [decide_eq_false_iff_not, Int.not_lt] at hc3
      refine c_exit ?_
      refine q_then_exit (q_then_exit (q_block_exit (q_then ?_)))
      refine c_seq ?_
      refine c_region ?_
      refine o_pure (p_assign (v := .int .i64 0) rfl) rfl rfl rfl ?_
      refine o_nil ?_
      refine q_then ?_
      refine c_ret ?_
      refine q_end0 (v := .int .i64 0) (rt1 rfl (r_tmp rfl)) (i := 0) rfl ?_
      congr 1
      grind [Flight.check, Flight.checkFrom, Flight.bad, Lru.okKey, Ref.between, List.drop_eq_getElem_cons]

set_option maxHeartbeats 8000000 in
set_option maxRecDepth 100000 in
theorem crowdWho_ok (l : List DCall) (al : Option Addr) (cl : Nat) (hy1 : l.length ≤ 1000000) : FnM Try.prog 28 [.slice al l.length cl] (fun w => Rd tCall w al cl l) (Option Addr × Nat) (fun p => .slice p.1 (Ref.crowdWho l).length p.2) (fun p S w => SlO tInt S w p.1 p.2 (Ref.crowdWho l)) := by
  refine fnM (nt := 63) (F0 := [(0, .slice al l.length cl)]) Try.func28 rfl Try.ntmps28 rfl rfl (fun w0 hpre => ?_)
  have hl := hpre
  have hll := hl.2.1
  refine c_seq ?_
  refine c_region ?_
  refine o_pure (p_assign (v := .slice none 0 0) rfl) rfl rfl rfl ?_
  refine o_nil ?_
  refine q_then ?_
  refine c_seq ?_
  refine c_region ?_
  refine o_pure (p_assign (v := .slice none 0 0) rfl) rfl rfl rfl ?_
  refine o_nil ?_
  refine q_then ?_
  refine c_seq ?_
  refine c_seq ?_
  refine c_region ?_
  refine o_pure (p_assign (v := .int .i64 0) rfl) rfl rfl rfl ?_
  refine o_nil ?_
  refine q_then ?_
  refine c_block ?_
  refine c_ownNil tInt ?_
  refine c_loop (St := List Int × Option Addr × Nat × (Nat → Prop) × Nat)
    (fun ⟨out, aout, cout, Sout, i⟩ => [(0, .slice al l.length cl), (3, .slice aout out.length cout), (4, .int .i64 (i : Int))])
    (fun ⟨out, aout, cout, Sout, i⟩ => [own tInt Sout aout cout out, base w0])
    (fun ⟨out, aout, cout, Sout, i⟩ => i ≤ l.length ∧ out = Ref.crowdTo l i)
    (fun ⟨out, aout, cout, Sout, i⟩ => l.length - i)
    ([], none, 0, (fun _ => False), 0) ?_ (Sub.cons rfl (Sub.cons rfl (Sub.cons rfl (Sub.nil _)))) (fun _ hw => hw) ?_
  · simp [Ref.crowdTo]
  rintro ⟨out, aout, cout, Sout, i⟩ hI K hK2
  obtain ⟨hi, hinv⟩ := hI
  have hol : out.length = i := by rw [hinv, Ref.crowdTo_length]
  show SC Try.prog 63 w0 _ _ [(0, .slice al l.length cl), (3, .slice aout out.length cout), (4, .int .i64 (i : Int))] [own tInt Sout aout cout out, base w0]
  refine c_seq ?_
  refine c_seq ?_
  refine c_region ?_
  refine o_pure (p_move (v := .int .i64 (i : Int)) rfl) rfl rfl rfl ?_
  refine o_pure (p_move (v := .slice al l.length cl) rfl) rfl rfl rfl ?_
  refine o_pure (p_len_slice (len := l.length) rfl rfl Try.underlying37) rfl rfl rfl ?_
  refine o_pure (p_lt (p := (i : Int)) (q := (l.length : Int)) rfl rfl) rfl rfl rfl ?_
  refine o_nil ?_
  refine q_then ?_
  refine c_cond (b := decide ((i : Int) < (l.length : Int))) rfl (fun hc3 => ?_) (fun hc3 => ?_)
  · simp only [decide_eq_true_eq] at hc3
    refine c_skip ?_
    refine q_then ?_
    refine c_seq ?_
    refine c_block ?_
    refine c_seq ?_
    refine c_region ?_
    refine o_pure (p_move (v := .int .i64 (i : Int)) rfl) rfl rfl rfl ?_
    refine o_pure (p_assign (v := .int .i64 (i : Int)) rfl) rfl rfl rfl ?_
    refine o_nil ?_
    refine q_then ?_
    refine c_seq ?_
    refine c_seq ?_
    refine c_region ?_
    refine o_pure (p_assign (v := .int .i64 0) rfl) rfl rfl rfl ?_
    refine o_nil ?_
    refine q_then ?_
    refine c_block ?_
    refine c_loop (St := Int × Nat)
      (fun ⟨who, k⟩ => [(0, .slice al l.length cl), (3, .slice aout out.length cout), (4, .int .i64 (i : Int)), (5, .int .i64 who), (6, .int .i64 (k : Int))])
      (fun ⟨who, k⟩ => [own tInt Sout aout cout out, base w0])
      (fun ⟨who, k⟩ => k ≤ i ∧ who = Ref.whoScan l out i k)
      (fun ⟨who, k⟩ => i - k)
      ((i : Int), 0) ?_ (Sub.cons rfl (Sub.cons rfl (Sub.cons rfl (Sub.cons rfl (Sub.cons rfl (Sub.nil _)))))) (fun _ hw => hw) ?_
    · simp [Ref.whoScan]
    rintro ⟨who, k⟩ hI K hK4
    obtain ⟨hk, hw⟩ := hI
    show SC Try.prog 63 w0 _ _ [(0, .slice al l.length cl), (3, .slice aout out.length cout), (4, .int .i64 (i : Int)), (5, .int .i64 who), (6, .int .i64 (k : Int))] [own tInt Sout aout cout out, base w0]
    refine c_seq ?_
    refine c_seq ?_
    refine c_region ?_
    refine o_pure (p_move (v := .int .i64 (k : Int)) rfl) rfl rfl rfl ?_
    refine o_pure (p_move (v := .int .i64 (i : Int)) rfl) rfl rfl rfl ?_
    refine o_pure (p_lt (p := (k : Int)) (q := (i : Int)) rfl rfl) rfl rfl rfl ?_
    refine o_nil ?_
    refine q_then ?_
    refine c_cond (b := decide ((k : Int) < (i : Int))) rfl (fun hc5 => ?_) (fun hc5 => ?_)
    · simp only [decide_eq_true_eq] at hc5
      refine c_skip ?_
      refine q_then ?_
      refine c_seq ?_
      refine c_block ?_
      refine c_seq ?_
      refine c_draw hmix (by kernel_rfl) ?_
      refine w_pure (p_move (v := .slice aout out.length cout) rfl) rfl rfl rfl ?_
      refine w_pure (p_move (v := .int .i64 (k : Int)) rfl) rfl rfl rfl ?_
      refine w_pure (p_indexAddr (L := out) (T := tInt) (i := (k : Int)) rfl rfl (rd_own (i := 0) rfl) Try.underlying38 sz3 (by omega) (by omega)) rfl rfl rfl ?_
      refine w_pure (p_loadE1 (i := k) (T := tInt) (L := out) (v := .int .i64 (out[k])) rfl (rd_own (i := 0) rfl) (by first | assumption | omega) sh3 rfl) rfl rfl rfl ?_
      refine w_pure (p_move (v := .int .i64 (k : Int)) rfl) rfl rfl rfl ?_
      refine w_pure (p_eq (p := out[k]) (q := (k : Int)) rfl rfl) rfl rfl rfl ?_
      refine w_pure (p_move (v := .bool (out[k] == (k : Int))) rfl) rfl rfl rfl ?_
      refine w_and (p := 37) 12 ((l[k]).key == (l[i]).key) ?_ ?_ ?_
      · intro hb6 hk
        simp only [beq_iff_eq] at hb6
        refine w_unguard 25 rfl rfl ?_
        refine w_pure (p_move (v := .slice al l.length cl) rfl) rfl rfl rfl ?_
        refine w_unguard 25 rfl rfl ?_
        refine w_pure (p_move (v := .int .i64 (k : Int)) rfl) rfl rfl rfl ?_
        refine w_unguard 25 rfl rfl ?_
        refine w_pure (p_indexAddr (L := l) (T := tCall) (i := (k : Int)) rfl rfl (rd_base (i := 1) rfl hl) Try.underlying37 sz47 (by omega) (by omega)) rfl rfl rfl ?_
        refine w_unguard 25 rfl rfl ?_
        refine w_pure (p_fieldAddrE rfl fo47_0) rfl rfl rfl ?_
        refine w_unguard 25 rfl rfl ?_
        refine w_pure (p_loadF (i := k) (j := 0) (T := tCall) (L := l) (v := .int .i64 ((l[k]).key)) rfl (rd_base (i := 1) rfl hl) (by first | assumption | omega) sh3 rfl) rfl rfl rfl ?_
        refine w_unguard 25 rfl rfl ?_
        refine w_pure (p_move (v := .slice al l.length cl) rfl) rfl rfl rfl ?_
        refine w_unguard 25 rfl rfl ?_
        refine w_pure (p_move (v := .int .i64 (i : Int)) rfl) rfl rfl rfl ?_
        refine w_unguard 25 rfl rfl ?_
        refine w_pure (p_indexAddr (L := l) (T := tCall) (i := (i : Int)) rfl rfl (rd_base (i := 1) rfl hl) Try.underlying37 sz47 (by omega) (by omega)) rfl rfl rfl ?_
        refine w_unguard 25 rfl rfl ?_
        refine w_pure (p_fieldAddrE rfl fo47_0) rfl rfl rfl ?_
        refine w_unguard 25 rfl rfl ?_
        refine w_pure (p_loadF (i := i) (j := 0) (T := tCall) (L := l) (v := .int .i64 ((l[i]).key)) rfl (rd_base (i := 1) rfl hl) (by first | assumption | omega) sh3 rfl) rfl rfl rfl ?_
        refine w_unguard 25 rfl rfl ?_
        refine w_pure (p_eq (p := (l[k]).key) (q := (l[i]).key) rfl rfl) rfl rfl rfl ?_
        refine w_pure (p_pick_true (u := .bool ((l[k]).key == (l[i]).key)) rfl rfl) rfl rfl rfl ?_
        exact w_sub (Sub.cons rfl (Sub.skip rfl (Sub.skip rfl (Sub.skip rfl (Sub.skip rfl (Sub.skip rfl (Sub.skip rfl (Sub.skip rfl (Sub.skip rfl (Sub.skip rfl (Sub.skip rfl (Sub.skip rfl (Sub.skip rfl (Sub.skip rfl (Sub.refl _))))))))))))))) hk
      · intro hb6 hk
        refine w_guard_no rfl 25 rfl rfl rfl rfl rfl ?_
        refine w_guard_no rfl 25 rfl rfl rfl rfl rfl ?_
        refine w_guard_no rfl 25 rfl rfl rfl rfl rfl ?_
        refine w_guard_no rfl 25 rfl rfl rfl rfl rfl ?_
        refine w_guard_no rfl 25 rfl rfl rfl rfl rfl ?_
        refine w_guard_no rfl 25 rfl rfl rfl rfl rfl ?_
        refine w_guard_no rfl 25 rfl rfl rfl rfl rfl ?_
        refine w_guard_no rfl 25 rfl rfl rfl rfl rfl ?_
        refine w_guard_no rfl 25 rfl rfl rfl rfl rfl ?_
        refine w_guard_no rfl 25 rfl rfl rfl rfl rfl ?_
        refine w_guard_no rfl 25 rfl rfl rfl rfl rfl ?_
        refine w_pure (p_pick_false (v := .bool false) rfl rfl) rfl rfl rfl ?_
        exact w_sub (Sub.cons rfl (Sub.skip rfl (Sub.skip rfl (Sub.skip rfl (Sub.skip rfl (Sub.skip rfl (Sub.skip rfl (Sub.skip rfl (Sub.skip rfl (Sub.skip rfl (Sub.skip rfl (Sub.skip rfl (Sub.skip rfl (Sub.skip rfl (Sub.refl _))))))))))))))) hk
      refine w_pure (p_move (v := .bool ((out[k] == (k : Int)) && ((l[k]).key == (l[i]).key))) rfl) rfl rfl rfl ?_
      refine w_and (p := 56) 18 (decide ((IntKind.i64.wrap ((l[i]).at_ - (l[k]).at_)) < (l[k]).long)) ?_ ?_ ?_
      · intro hb7 hk
        simp only [Bool.and_eq_true, beq_iff_eq] at hb7
        refine w_unguard 38 rfl rfl ?_
        refine w_pure (p_move (v := .slice al l.length cl) rfl) rfl rfl rfl ?_
        refine w_unguard 38 rfl rfl ?_
        refine w_pure (p_move (v := .int .i64 (i : Int)) rfl) rfl rfl rfl ?_
        refine w_unguard 38 rfl rfl ?_
        refine w_pure (p_indexAddr (L := l) (T := tCall) (i := (i : Int)) rfl rfl (rd_base (i := 1) rfl hl) Try.underlying37 sz47 (by omega) (by omega)) rfl rfl rfl ?_
        refine w_unguard 38 rfl rfl ?_
        refine w_pure (p_fieldAddrE rfl fo47_1) rfl rfl rfl ?_
        refine w_unguard 38 rfl rfl ?_
        refine w_pure (p_loadF (i := i) (j := 1) (T := tCall) (L := l) (v := .int .i64 ((l[i]).at_)) rfl (rd_base (i := 1) rfl hl) (by first | assumption | omega) sh3 rfl) rfl rfl rfl ?_
        refine w_unguard 38 rfl rfl ?_
        refine w_pure (p_move (v := .slice al l.length cl) rfl) rfl rfl rfl ?_
        refine w_unguard 38 rfl rfl ?_
        refine w_pure (p_move (v := .int .i64 (k : Int)) rfl) rfl rfl rfl ?_
        refine w_unguard 38 rfl rfl ?_
        refine w_pure (p_indexAddr (L := l) (T := tCall) (i := (k : Int)) rfl rfl (rd_base (i := 1) rfl hl) Try.underlying37 sz47 (by omega) (by omega)) rfl rfl rfl ?_
        refine w_unguard 38 rfl rfl ?_
        refine w_pure (p_fieldAddrE rfl fo47_1) rfl rfl rfl ?_
        refine w_unguard 38 rfl rfl ?_
        refine w_pure (p_loadF (i := k) (j := 1) (T := tCall) (L := l) (v := .int .i64 ((l[k]).at_)) rfl (rd_base (i := 1) rfl hl) (by first | assumption | omega) sh3 rfl) rfl rfl rfl ?_
        refine w_unguard 38 rfl rfl ?_
        refine w_pure (p_sub (p := (l[i]).at_) (q := (l[k]).at_) rfl rfl) rfl rfl rfl ?_
        refine w_unguard 38 rfl rfl ?_
        refine w_pure (p_move (v := .slice al l.length cl) rfl) rfl rfl rfl ?_
        refine w_unguard 38 rfl rfl ?_
        refine w_pure (p_move (v := .int .i64 (k : Int)) rfl) rfl rfl rfl ?_
        refine w_unguard 38 rfl rfl ?_
        refine w_pure (p_indexAddr (L := l) (T := tCall) (i := (k : Int)) rfl rfl (rd_base (i := 1) rfl hl) Try.underlying37 sz47 (by omega) (by omega)) rfl rfl rfl ?_
        refine w_unguard 38 rfl rfl ?_
        refine w_pure (p_fieldAddrE rfl fo47_2) rfl rfl rfl ?_
        refine w_unguard 38 rfl rfl ?_
        refine w_pure (p_loadF (i := k) (j := 2) (T := tCall) (L := l) (v := .int .i64 ((l[k]).long)) rfl (rd_base (i := 1) rfl hl) (by first | assumption | omega) sh3 rfl) rfl rfl rfl ?_
        refine w_unguard 38 rfl rfl ?_
        refine w_pure (p_lt (p := (IntKind.i64.wrap ((l[i]).at_ - (l[k]).at_))) (q := (l[k]).long) rfl rfl) rfl rfl rfl ?_
        refine w_pure (p_pick_true (u := .bool (decide ((IntKind.i64.wrap ((l[i]).at_ - (l[k]).at_)) < (l[k]).long))) rfl rfl) rfl rfl rfl ?_
        exact w_sub (Sub.cons rfl (Sub.skip rfl (Sub.skip rfl (Sub.skip rfl (Sub.skip rfl (Sub.skip rfl (Sub.skip rfl (Sub.skip rfl (Sub.skip rfl (Sub.skip rfl (Sub.skip rfl (Sub.skip rfl (Sub.skip rfl (Sub.skip rfl (Sub.skip rfl (Sub.skip rfl (Sub.skip rfl (Sub.skip rfl (Sub.skip rfl (Sub.skip rfl (Sub.refl _))))))))))))))))))))) hk
      · intro hb7 hk
        refine w_guard_no rfl 38 rfl rfl rfl rfl rfl ?_
        refine w_guard_no rfl 38 rfl rfl rfl rfl rfl ?_
        refine w_guard_no rfl 38 rfl rfl rfl rfl rfl ?_
        refine w_guard_no rfl 38 rfl rfl rfl rfl rfl ?_
        refine w_guard_no rfl 38 rfl rfl rfl rfl rfl ?_
        refine w_guard_no rfl 38 rfl rfl rfl rfl rfl ?_
        refine w_guard_no rfl 38 rfl rfl rfl rfl rfl ?_
        refine w_guard_no rfl 38 rfl rfl rfl rfl rfl ?_
        refine w_guard_no rfl 38 rfl rfl rfl rfl rfl ?_
        refine w_guard_no rfl 38 rfl rfl rfl rfl rfl ?_
        refine w_guard_no rfl 38 rfl rfl rfl rfl rfl ?_
        refine w_guard_no rfl 38 rfl rfl rfl rfl rfl ?_
        refine w_guard_no rfl 38 rfl rfl rfl rfl rfl ?_
        refine w_guard_no rfl 38 rfl rfl rfl rfl rfl ?_
        refine w_guard_no rfl 38 rfl rfl rfl rfl rfl ?_
        refine w_guard_no rfl 38 rfl rfl rfl rfl rfl ?_
        refine w_guard_no rfl 38 rfl rfl rfl rfl rfl ?_
        refine w_pure (p_pick_false (v := .bool false) rfl rfl) rfl rfl rfl ?_
        exact w_sub (Sub.cons rfl (Sub.skip rfl (Sub.skip rfl (Sub.skip rfl (Sub.skip rfl (Sub.skip rfl (Sub.skip rfl (Sub.skip rfl (Sub.skip rfl (Sub.skip rfl (Sub.skip rfl (Sub.skip rfl (Sub.skip rfl (Sub.skip rfl (Sub.skip rfl (Sub.skip rfl (Sub.skip rfl (Sub.skip rfl (Sub.skip rfl (Sub.skip rfl (Sub.refl _))))))))))))))))))))) hk
      refine w_nil ?_
      refine q_then ?_
      refine c_cond (b := (((out[k] == (k : Int)) && ((l[k]).key == (l[i]).key)) && decide ((IntKind.i64.wrap ((l[i]).at_ - (l[k]).at_)) < (l[k]).long))) rfl (fun hc8 => ?_) (fun hc8 => ?_)
      · simp only [Bool.and_eq_true, beq_iff_eq, decide_eq_true_eq] at hc8
        refine c_region ?_
        refine o_pure (p_move (v := .int .i64 (k : Int)) rfl) rfl rfl rfl ?_
        refine o_pure (p_assign (v := .int .i64 (k : Int)) rfl) rfl rfl rfl ?_
        refine o_nil ?_
        refine q_block_normal (q_then ?_)
        refine c_region ?_
        refine o_pure (p_move (v := .int .i64 (k : Int)) rfl) rfl rfl rfl ?_
        refine o_pure (p_addb (p := (k : Int)) (q := 1) rfl rfl (by omega)) rfl rfl rfl ?_
        refine o_pure (p_assign (v := .int .i64 ((k : Int) + 1)) rfl) rfl rfl rfl ?_
        refine o_nil ?_
        refine q_round hK4 ((k : Int), k + 1) ?_ ?_ ?_ ?_
        · clear hK4
          refine ⟨by omega, ?_⟩
          grind [Ref.whoScan, Ref.whoHit]
        · (try dsimp only); omega
        · exact Sub.cons rfl (Sub.cons rfl (Sub.cons rfl (Sub.cons rfl (Sub.cons rfl (Sub.nil _)))))
        · exact fun _ hw => HeapIs.drop hw (List.Sublist.refl _)
      · simp only [Bool.and_eq_false_iff, beq_eq_false_iff_ne, ne_eq, decide_eq_false_iff_not, Int.not_lt] at hc8
        refine c_skip ?_
        refine q_block_normal (q_then ?_)
        refine c_region ?_
        refine o_pure (p_move (v := .int .i64 (k : Int)) rfl) rfl rfl rfl ?_
        refine o_pure (p_addb (p := (k : Int)) (q := 1) rfl rfl (by omega)) rfl rfl rfl ?_
        refine o_pure (p_assign (v := .int .i64 ((k : Int) + 1)) rfl) rfl rfl rfl ?_
        refine o_nil ?_
        refine q_round hK4 (who, k + 1) ?_ ?_ ?_ ?_
        · clear hK4
          refine ⟨by omega, ?_⟩
          grind [Ref.whoScan, Ref.whoHit]
        · (try dsimp only); omega
        · exact Sub.cons rfl (Sub.cons rfl (Sub.cons rfl (Sub.cons rfl (Sub.cons rfl (Sub.nil _)))))
        · exact fun _ hw => HeapIs.drop hw (List.Sublist.refl _)
    · simp only [decide_eq_false_iff_not, Int.not_lt] at hc5
      refine c_exit ?_
      refine q_then_exit (q_then_exit (q_block_exit (q_then ?_)))
      refine c_region ?_
      refine o_pure (p_move (v := .slice aout out.length cout) rfl) rfl rfl rfl ?_
      refine o_pure (p_move (v := .int .i64 who) rfl) rfl rfl rfl ?_
      refine o_buildSlice (m := 1) (T := tInt) (L := [who]) (vs := [.int .i64 who]) rfl rfl rfl rfl Try.underlying38 sz3 (by decide) ze3 rfl (by decide) rfl (fun S9 a10 => ?_)
      refine o_append (i := 1) (L := out) (M := [who]) (T := tInt) rfl rfl rfl (rd_own (i := 0) rfl) Try.underlying38 Try.underlying38 (by intro k h; cases h) el3 (by intro z; simp [tInt, one1]) (by decide) (by simp only [List.length_cons, List.length_nil]; omega) rfl (fun a12 c13 S14 => ?_)
      refine o_pure (p_assign (v := .slice a12 (out ++ [who]).length c13) rfl) rfl rfl rfl ?_
      refine o_nil ?_
      refine q_block_normal (q_then ?_)
      refine c_region ?_
      refine o_pure (p_move (v := .int .i64 (i : Int)) rfl) rfl rfl rfl ?_
      refine o_pure (p_addb (p := (i : Int)) (q := 1) rfl rfl (by omega)) rfl rfl rfl ?_
      refine o_pure (p_assign (v := .int .i64 ((i : Int) + 1)) rfl) rfl rfl rfl ?_
      refine o_nil ?_
      refine q_round hK2 ((out ++ [who]), a12, c13, S14, i + 1) ?_ ?_ ?_ ?_
      · clear hK2
        refine ⟨by omega, ?_⟩
        grind [Ref.crowdTo]
      · (try dsimp only); omega
      · exact Sub.cons rfl (Sub.cons rfl (Sub.cons rfl (Sub.nil _)))
      · exact fun _ hw => HeapIs.drop hw (List.Sublist.cons _ (List.Sublist.refl _))
  · simp only [decide_eq_false_iff_not, Int.not_lt] at hc3
    refine c_exit ?_
    refine q_then_exit (q_then_exit (q_block_exit (q_then ?_)))
    refine c_seq ?_
    refine c_region ?_
    refine o_pure (p_move (v := .slice aout out.length cout) rfl) rfl rfl rfl ?_
    refine o_pure (p_assign (v := .slice aout out.length cout) rfl) rfl rfl rfl ?_
    refine o_nil ?_
    refine q_then ?_
    refine c_ret ?_
    have hr0 : (out : List Int) = Ref.crowdWho l := by
      simp only [Ref.crowdWho]; grind
    refine q_endM (p := (aout, cout)) Sout (rt1 rfl (r_tmp rfl)) (i := 1) rfl ?_ ?_ ?_
    · simp only [← hr0, List.length_nil]
    · exact fun w hw => hw.above (i := 1) (j := 0) (by decide) rfl rfl
    · intro w hw; exact by rw [← hr0]; have h := (hw.at (i := 0) rfl).here; exact h
end Go.Proofs.Ythbfdhphnofacaa
