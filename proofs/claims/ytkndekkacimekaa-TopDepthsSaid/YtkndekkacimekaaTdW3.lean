/- The walks, printed by a program from the translation and a specification. -/
import Derived.Test.YtkndekkacimekaaTdF
import Derived.Test.YtkndekkacimekaaTdLaw
namespace Go.Proofs.Ytkndekkacimekaa
open Go.Sx Go.RowKit
set_option maxHeartbeats 8000000 in
set_option maxRecDepth 100000 in
theorem key_ok (n : Int) : Fn0 Try.prog 52 [.int .i64 n] (fun _ => True) (.bool (Lru.okKey n)) := by
  refine fn0 (nt := 9) (F0 := [(0, .int .i64 n)]) Try.func52 rfl Try.ntmps52 rfl rfl (fun w0 hpre => ?_)
  refine c_seq ?_
  refine c_region ?_
  refine o_pure (p_assign (v := .bool false) rfl) rfl rfl rfl ?_
  refine o_nil ?_
  refine q_then ?_
  refine c_seq ?_
  refine c_region ?_
  refine o_pure (p_move (v := .int .i64 n) rfl) rfl rfl rfl ?_
  refine o_pure (p_ge (p := n) (q := 0) rfl rfl) rfl rfl rfl ?_
  refine o_pure (p_move (v := .bool (decide (0 ≤ n))) rfl) rfl rfl rfl ?_
  refine o_and (p := 8) 3 (decide (n ≤ 1048576)) ?_ ?_ ?_
  · intro hb1 hk
    simp only [decide_eq_true_eq] at hb1
    refine o_unguard 5 rfl rfl ?_
    refine o_pure (p_move (v := .int .i64 n) rfl) rfl rfl rfl ?_
    refine o_unguard 5 rfl rfl ?_
    refine o_pure (p_le (p := n) (q := 1048576) rfl rfl) rfl rfl rfl ?_
    refine o_pure (p_pick_true (u := .bool (decide (n ≤ 1048576))) rfl rfl) rfl rfl rfl ?_
    exact o_sub (Sub.cons rfl (Sub.skip rfl (Sub.skip rfl (Sub.skip rfl (Sub.skip rfl (Sub.refl _)))))) hk
  · intro hb1 hk
    refine o_guard_no rfl 5 rfl rfl rfl rfl rfl ?_
    refine o_guard_no rfl 5 rfl rfl rfl rfl rfl ?_
    refine o_pure (p_pick_false (v := .bool false) rfl rfl) rfl rfl rfl ?_
    exact o_sub (Sub.cons rfl (Sub.skip rfl (Sub.skip rfl (Sub.skip rfl (Sub.skip rfl (Sub.refl _)))))) hk
  refine o_pure (p_assign (v := .bool (decide (0 ≤ n) && decide (n ≤ 1048576))) rfl) rfl rfl rfl ?_
  refine o_nil ?_
  refine q_then ?_
  refine c_ret ?_
  have hr0 : ((decide (0 ≤ n) && decide (n ≤ 1048576)) : Bool) = (Lru.okKey n) := by
    rfl
  refine q_end0 (v := .bool (decide (0 ≤ n) && decide (n ≤ 1048576))) (rt1 rfl (r_tmp rfl)) (i := 0) rfl ?_
  exact (by have hcc := congrArg (fun (y0 : Bool) => (.bool y0 : Value)) hr0; exact hcc)

set_option maxHeartbeats 8000000 in
set_option maxRecDepth 100000 in
theorem room_ok (n : Int) : Fn0 Try.prog 70 [.int .i64 n] (fun _ => True) (.bool (Lru.okRoom n)) := by
  refine fn0 (nt := 9) (F0 := [(0, .int .i64 n)]) Try.func70 rfl Try.ntmps70 rfl rfl (fun w0 hpre => ?_)
  refine c_seq ?_
  refine c_region ?_
  refine o_pure (p_assign (v := .bool false) rfl) rfl rfl rfl ?_
  refine o_nil ?_
  refine q_then ?_
  refine c_seq ?_
  refine c_region ?_
  refine o_pure (p_move (v := .int .i64 n) rfl) rfl rfl rfl ?_
  refine o_pure (p_ge (p := n) (q := 1) rfl rfl) rfl rfl rfl ?_
  refine o_pure (p_move (v := .bool (decide (1 ≤ n))) rfl) rfl rfl rfl ?_
  refine o_and (p := 8) 3 (decide (n ≤ 40)) ?_ ?_ ?_
  · intro hb1 hk
    simp only [decide_eq_true_eq] at hb1
    refine o_unguard 5 rfl rfl ?_
    refine o_pure (p_move (v := .int .i64 n) rfl) rfl rfl rfl ?_
    refine o_unguard 5 rfl rfl ?_
    refine o_pure (p_le (p := n) (q := 40) rfl rfl) rfl rfl rfl ?_
    refine o_pure (p_pick_true (u := .bool (decide (n ≤ 40))) rfl rfl) rfl rfl rfl ?_
    exact o_sub (Sub.cons rfl (Sub.skip rfl (Sub.skip rfl (Sub.skip rfl (Sub.skip rfl (Sub.refl _)))))) hk
  · intro hb1 hk
    refine o_guard_no rfl 5 rfl rfl rfl rfl rfl ?_
    refine o_guard_no rfl 5 rfl rfl rfl rfl rfl ?_
    refine o_pure (p_pick_false (v := .bool false) rfl rfl) rfl rfl rfl ?_
    exact o_sub (Sub.cons rfl (Sub.skip rfl (Sub.skip rfl (Sub.skip rfl (Sub.skip rfl (Sub.refl _)))))) hk
  refine o_pure (p_assign (v := .bool (decide (1 ≤ n) && decide (n ≤ 40))) rfl) rfl rfl rfl ?_
  refine o_nil ?_
  refine q_then ?_
  refine c_ret ?_
  have hr0 : ((decide (1 ≤ n) && decide (n ≤ 40)) : Bool) = (Lru.okRoom n) := by
    rfl
  refine q_end0 (v := .bool (decide (1 ≤ n) && decide (n ≤ 40))) (rt1 rfl (r_tmp rfl)) (i := 0) rfl ?_
  exact (by have hcc := congrArg (fun (y0 : Bool) => (.bool y0 : Value)) hr0; exact hcc)

set_option maxHeartbeats 8000000 in
set_option maxRecDepth 100000 in
theorem keys_ok (l : List Int) (al : Option Addr) (cl : Nat) : Fn0 Try.prog 71 [.slice al l.length cl] (fun w => Rd tInt w al cl l) (.int .i64 (Lru.keys l)) := by
  refine fn0 (nt := 29) (F0 := [(0, .slice al l.length cl)]) Try.func71 rfl Try.ntmps71 rfl rfl (fun w0 hpre => ?_)
  have hl := hpre
  have hlhl := hl.2.1
  refine c_seq ?_
  refine c_region ?_
  refine o_pure (p_assign (v := .int .i64 0) rfl) rfl rfl rfl ?_
  refine o_nil ?_
  refine q_then ?_
  refine c_seq ?_
  refine c_region ?_
  refine o_makeMap (ν := Unit) kInt (fun _ => .agg #[]) rfl (fun B1 => ?_)
  refine o_pure (p_assign (v := .map (some B1)) rfl) rfl rfl rfl ?_
  refine o_nil ?_
  refine q_then ?_
  refine c_seq ?_
  refine c_seq ?_
  refine c_region ?_
  refine o_pure (p_move (v := .slice al l.length cl) rfl) rfl rfl rfl ?_
  refine o_pure (p_len_slice (len := l.length) rfl rfl Try.underlying30) rfl rfl rfl ?_
  refine o_pure (p_move (v := .int .i64 0) rfl) rfl rfl rfl ?_
  refine o_nil ?_
  refine q_then ?_
  refine c_block ?_
  refine c_loop (St := Nat × List (Int × Unit))
    (fun ⟨k, m⟩ => [(3, .map (some B1)), (9, .slice al l.length cl), (10, .int .i64 (l.length : Int)), (11, .int .i64 (k : Int))])
    (fun ⟨k, m⟩ => [mapE kInt (fun _ => .agg #[]) B1 m, base w0])
    (fun ⟨k, m⟩ => k ≤ l.length ∧ Lru.keysGo (l.take k) (l.drop k) = Lru.keys l ∧ Lru.Seen m l k)
    (fun ⟨k, m⟩ => l.length - k)
    (0, []) ?_ (Sub.cons rfl (Sub.cons rfl (Sub.cons rfl (Sub.cons rfl (Sub.nil _))))) (fun _ hw => hw) ?_
  · exact ⟨Nat.zero_le _, rfl, Lru.Seen.start l⟩
  rintro ⟨k, m⟩ hI K hK2
  obtain ⟨hI1, hI2, hI3⟩ := hI
  show SC _ _ Try.prog 29 w0 _ _ [(3, .map (some B1)), (9, .slice al l.length cl), (10, .int .i64 (l.length : Int)), (11, .int .i64 (k : Int))] [mapE kInt (fun _ => .agg #[]) B1 m, base w0]
  refine c_seq ?_
  refine c_region ?_
  refine o_pure (p_lt (p := (k : Int)) (q := (l.length : Int)) rfl rfl) rfl rfl rfl ?_
  refine o_nil ?_
  refine q_then ?_
  refine c_seq ?_
  refine c_cond (b := decide ((k : Int) < (l.length : Int))) rfl (fun hc3 => ?_) (fun hc3 => ?_)
  · simp only [decide_eq_true_eq] at hc3
    refine c_skip ?_
    refine q_then ?_
    refine c_seq ?_
    refine c_block ?_
    refine c_seq ?_
    refine c_region ?_
    refine o_pure (p_indexAddr (L := l) (T := tInt) (i := (k : Int)) rfl rfl (rd_base (i := 1) rfl hl) Try.underlying30 sz3 (by omega) (by omega)) rfl rfl rfl ?_
    refine o_pure (p_loadE1 (i := k) (T := tInt) (L := l) (v := .int .i64 (l[k])) rfl (rd_base (i := 1) rfl hl) (by first | assumption | omega) sh3 rfl) rfl rfl rfl ?_
    refine o_pure (p_assign (v := .int .i64 (l[k])) rfl) rfl rfl rfl ?_
    refine o_nil ?_
    refine q_then ?_
    refine c_seq ?_
    refine c_seq ?_
    refine c_region ?_
    refine o_pure (p_move (v := .int .i64 (l[k])) rfl) rfl rfl rfl ?_
    refine o_call0 (v := .bool (Lru.okKey (l[k]))) rfl (key_ok (l[k])) hf52 (fun _ _ => trivial) rfl ?_
    refine o_pure (p_not (b := (Lru.okKey (l[k]))) rfl) rfl rfl rfl ?_
    refine o_nil ?_
    refine q_then ?_
    refine c_cond (b := (!(Lru.okKey (l[k])))) rfl (fun hc4 => ?_) (fun hc4 => ?_)
    · simp only [Bool.not_eq_true'] at hc4
      refine c_seq ?_
      refine c_region ?_
      refine o_pure (p_assign (v := .int .i64 3) rfl) rfl rfl rfl ?_
      refine o_nil ?_
      refine q_then ?_
      refine c_ret ?_
      refine q_then_ret (q_block_ret (q_then_ret (q_then_ret (q_block_ret (q_then_ret ?_)))))
      have hr0 : (3 : Int) = (Lru.keys l) := by
        first | exact Lru.keys_bad (by omega) hI2 (by assumption) | exact Lru.keys_twice (by omega) hI2 (by assumption) ((hI3 _).1 (by assumption)) | exact Lru.keys_end (by omega) hI2
      refine q_end0 (v := .int .i64 3) (rt1 rfl (r_tmp rfl)) (i := 1) rfl ?_
      exact (by have hcc := congrArg (fun (y0 : Int) => (.int .i64 y0 : Value)) hr0; exact hcc)
    · simp only [Bool.not_eq_false'] at hc4
      refine c_skip ?_
      refine q_then ?_
      refine c_seq ?_
      refine c_seq ?_
      refine c_region ?_
      refine o_pure (p_move (v := .map (some B1)) rfl) rfl rfl rfl ?_
      refine o_pure (p_move (v := .int .i64 (l[k])) rfl) rfl rfl rfl ?_
      refine o_pure (p_lookup2 (i := 0) (K := kInt) (ve := (fun _ => .agg #[])) (m := m) (k := l[k]) (dflt := ()) rfl rfl rfl Try.underlying135 Try.underlying3 zv136) rfl rfl rfl ?_
      refine o_pure (p_move (v := .tuple #[.agg #[], .bool ((AL.get m (l[k])).isSome)]) rfl) rfl rfl rfl ?_
      refine o_pure (p_extract (vs := [.agg #[], .bool ((AL.get m (l[k])).isSome)]) (v := .agg #[]) rfl rfl) rfl rfl rfl ?_
      refine o_pure (p_extract (vs := [.agg #[], .bool ((AL.get m (l[k])).isSome)]) (v := .bool ((AL.get m (l[k])).isSome)) rfl rfl) rfl rfl rfl ?_
      refine o_alloc ze136 rfl (fun B5 => ?_)
      refine o_storeN (i := 0) (vs := []) (cs' := []) rfl rfl rfl sz136 rfl rfl rfl rfl ?_
      refine o_pure (p_assign (v := .bool ((AL.get m (l[k])).isSome)) rfl) rfl rfl rfl ?_
      refine o_nil ?_
      refine q_then ?_
      refine c_seq ?_
      refine c_region ?_
      refine o_pure (p_move (v := .bool ((AL.get m (l[k])).isSome)) rfl) rfl rfl rfl ?_
      refine o_nil ?_
      refine q_then ?_
      refine c_cond (b := (AL.get m (l[k])).isSome) rfl (fun hc6 => ?_) (fun hc6 => ?_)
      · skip
        refine c_seq ?_
        refine c_region ?_
        refine o_pure (p_assign (v := .int .i64 6) rfl) rfl rfl rfl ?_
        refine o_nil ?_
        refine q_then ?_
        refine c_ret ?_
        refine q_then_ret (q_block_ret (q_then_ret (q_then_ret (q_block_ret (q_then_ret ?_)))))
        have hr0 : (6 : Int) = (Lru.keys l) := by
          first | exact Lru.keys_bad (by omega) hI2 (by assumption) | exact Lru.keys_twice (by omega) hI2 (by assumption) ((hI3 _).1 (by assumption)) | exact Lru.keys_end (by omega) hI2
        refine q_end0 (v := .int .i64 6) (rt1 rfl (r_tmp rfl)) (i := 2) rfl ?_
        exact (by have hcc := congrArg (fun (y0 : Int) => (.int .i64 y0 : Value)) hr0; exact hcc)
      · skip
        refine c_skip ?_
        refine q_then ?_
        refine c_region ?_
        refine o_pure (p_move (v := .map (some B1)) rfl) rfl rfl rfl ?_
        refine o_pure (p_move (v := .int .i64 (l[k])) rfl) rfl rfl rfl ?_
        refine o_pure (p_build (cells := []) fp136 ze136 rfl rfl) rfl rfl rfl ?_
        refine o_mapUpdate (i := 1) (K := kInt) (ve := (fun _ => .agg #[])) (m := m) (k := l[k]) (v := ()) rfl rfl rfl rfl Try.underlying135 Try.underlying3 ?_
        refine o_nil ?_
        refine q_block_normal (q_then ?_)
        refine c_region ?_
        refine o_pure (p_addb (p := (k : Int)) (q := 1) rfl rfl (by omega)) rfl rfl rfl ?_
        refine o_pure (p_move (v := .int .i64 ((k : Int) + 1)) rfl) rfl rfl rfl ?_
        refine o_nil ?_
        refine q_round hK2 (k + 1, (AL.set m (l[k]) ())) ?_ ?_ ?_ ?_
        · clear hK2
          exact ⟨by omega, Lru.keys_next (by omega) hI2 (by assumption) (fun hm => by have := (hI3 _).2 hm; simp_all), hI3.next (by omega) _⟩
        · (try dsimp only); omega
        · exact Sub.cons rfl (Sub.cons rfl (Sub.cons rfl (Sub.cons rfl (Sub.nil _))))
        · exact fun _ hw => HeapIs.pick hw [1, 2] (by decide) rfl
  · simp only [decide_eq_false_iff_not, Int.not_lt] at hc3
    refine c_exit ?_
    refine q_then_exit (q_then_exit (q_block_exit (q_then ?_)))
    refine c_seq ?_
    refine c_region ?_
    refine o_pure (p_assign (v := .int .i64 0) rfl) rfl rfl rfl ?_
    refine o_nil ?_
    refine q_then ?_
    refine c_ret ?_
    have hr0 : (0 : Int) = (Lru.keys l) := by
      first | exact Lru.keys_bad (by omega) hI2 (by assumption) | exact Lru.keys_twice (by omega) hI2 (by assumption) ((hI3 _).1 (by assumption)) | exact Lru.keys_end (by omega) hI2
    refine q_end0 (v := .int .i64 0) (rt1 rfl (r_tmp rfl)) (i := 1) rfl ?_
    exact (by have hcc := congrArg (fun (y0 : Int) => (.int .i64 y0 : Value)) hr0; exact hcc)

set_option maxHeartbeats 8000000 in
set_option maxRecDepth 100000 in
theorem tsame_ok (a : List Int) (aa : Option Addr) (ca : Nat) (b : List Int) (ab : Option Addr) (cb : Nat) : Fn0 Try.prog 72 [.slice aa a.length ca, .slice ab b.length cb] (fun w => Rd tInt w aa ca a ∧ Rd tInt w ab cb b) (.bool (Ref.sameInts a b)) := by
  refine fn0 (nt := 26) (F0 := [(0, .slice aa a.length ca), (1, .slice ab b.length cb)]) Try.func72 rfl Try.ntmps72 rfl rfl (fun w0 hpre => ?_)
  obtain ⟨ha, hb⟩ := hpre
  have hlha := ha.2.1
  have hlhb := hb.2.1
  refine c_seq ?_
  refine c_region ?_
  refine o_pure (p_assign (v := .bool false) rfl) rfl rfl rfl ?_
  refine o_nil ?_
  refine q_then ?_
  refine c_seq ?_
  refine c_seq ?_
  refine c_region ?_
  refine o_pure (p_move (v := .slice aa a.length ca) rfl) rfl rfl rfl ?_
  refine o_pure (p_len_slice (len := a.length) rfl rfl Try.underlying30) rfl rfl rfl ?_
  refine o_pure (p_move (v := .slice ab b.length cb) rfl) rfl rfl rfl ?_
  refine o_pure (p_len_slice (len := b.length) rfl rfl Try.underlying30) rfl rfl rfl ?_
  refine o_pure (p_ne (p := (a.length : Int)) (q := (b.length : Int)) rfl rfl) rfl rfl rfl ?_
  refine o_nil ?_
  refine q_then ?_
  refine c_cond (b := ((a.length : Int) != (b.length : Int))) rfl (fun hc1 => ?_) (fun hc1 => ?_)
  · simp only [bne_iff_ne, ne_eq] at hc1
    refine c_seq ?_
    refine c_region ?_
    refine o_pure (p_assign (v := .bool false) rfl) rfl rfl rfl ?_
    refine o_nil ?_
    refine q_then ?_
    refine c_ret ?_
    refine q_then_ret ?_
    have hr0 : (false : Bool) = (Ref.sameInts a b) := by
      simp only [Ref.sameInts]
      grind [List.ext_getElem]
    refine q_end0 (v := .bool false) (rt1 rfl (r_tmp rfl)) (i := 0) rfl ?_
    exact (by have hcc := congrArg (fun (y0 : Bool) => (.bool y0 : Value)) hr0; exact hcc)
  · simp only [bne_eq_false_iff_eq] at hc1
    refine c_skip ?_
    refine q_then ?_
    refine c_seq ?_
    refine c_seq ?_
    refine c_region ?_
    refine o_pure (p_assign (v := .int .i64 0) rfl) rfl rfl rfl ?_
    refine o_nil ?_
    refine q_then ?_
    refine c_block ?_
    refine c_loop (St := Nat)
      (fun i => [(0, .slice aa a.length ca), (1, .slice ab b.length cb), (5, .int .i64 (i : Int))])
      (fun i => [base w0])
      (fun i => i ≤ a.length ∧ ∀ j (h1 : j < a.length) (h2 : j < b.length), j < i → a[j] = b[j])
      (fun i => a.length - i)
      0 ?_ (Sub.cons rfl (Sub.cons rfl (Sub.cons rfl (Sub.nil _)))) (fun _ hw => hw) ?_
    · exact ⟨Nat.zero_le _, fun j _ _ h => absurd h (by omega)⟩
    rintro i hI K hK2
    obtain ⟨hi, hinv⟩ := hI
    show SC _ _ Try.prog 26 w0 _ _ [(0, .slice aa a.length ca), (1, .slice ab b.length cb), (5, .int .i64 (i : Int))] [base w0]
    refine c_seq ?_
    refine c_seq ?_
    refine c_region ?_
    refine o_pure (p_move (v := .int .i64 (i : Int)) rfl) rfl rfl rfl ?_
    refine o_pure (p_move (v := .slice aa a.length ca) rfl) rfl rfl rfl ?_
    refine o_pure (p_len_slice (len := a.length) rfl rfl Try.underlying30) rfl rfl rfl ?_
    refine o_pure (p_lt (p := (i : Int)) (q := (a.length : Int)) rfl rfl) rfl rfl rfl ?_
    refine o_nil ?_
    refine q_then ?_
    refine c_cond (b := decide ((i : Int) < (a.length : Int))) rfl (fun hc3 => ?_) (fun hc3 => ?_)
    · simp only [decide_eq_true_eq] at hc3
      refine c_skip ?_
      refine q_then ?_
      refine c_seq ?_
      refine c_block ?_
      refine c_seq ?_
      refine c_draw hmix (by kernel_rfl) ?_
      refine w_pure (p_move (v := .slice aa a.length ca) rfl) rfl rfl rfl ?_
      refine w_pure (p_move (v := .int .i64 (i : Int)) rfl) rfl rfl rfl ?_
      refine w_pure (p_indexAddr (L := a) (T := tInt) (i := (i : Int)) rfl rfl (rd_base (i := 0) rfl ha) Try.underlying30 sz3 (by omega) (by omega)) rfl rfl rfl ?_
      refine w_pure (p_loadE1 (i := i) (T := tInt) (L := a) (v := .int .i64 (a[i])) rfl (rd_base (i := 0) rfl ha) (by first | assumption | omega) sh3 rfl) rfl rfl rfl ?_
      refine w_pure (p_move (v := .slice ab b.length cb) rfl) rfl rfl rfl ?_
      refine w_pure (p_move (v := .int .i64 (i : Int)) rfl) rfl rfl rfl ?_
      refine w_pure (p_indexAddr (L := b) (T := tInt) (i := (i : Int)) rfl rfl (rd_base (i := 0) rfl hb) Try.underlying30 sz3 (by omega) (by omega)) rfl rfl rfl ?_
      refine w_pure (p_loadE1 (i := i) (T := tInt) (L := b) (v := .int .i64 (b[i])) rfl (rd_base (i := 0) rfl hb) (by first | assumption | omega) sh3 rfl) rfl rfl rfl ?_
      refine w_pure (p_ne (p := a[i]) (q := b[i]) rfl rfl) rfl rfl rfl ?_
      refine w_nil ?_
      refine q_then ?_
      refine c_cond (b := (a[i] != b[i])) rfl (fun hc4 => ?_) (fun hc4 => ?_)
      · simp only [bne_iff_ne, ne_eq] at hc4
        refine c_seq ?_
        refine c_region ?_
        refine o_pure (p_assign (v := .bool false) rfl) rfl rfl rfl ?_
        refine o_nil ?_
        refine q_then ?_
        refine c_ret ?_
        refine q_block_ret (q_then_ret (q_then_ret (q_block_ret (q_then_ret ?_))))
        have hr0 : (false : Bool) = (Ref.sameInts a b) := by
          simp only [Ref.sameInts]
          grind [List.ext_getElem]
        refine q_end0 (v := .bool false) (rt1 rfl (r_tmp rfl)) (i := 0) rfl ?_
        exact (by have hcc := congrArg (fun (y0 : Bool) => (.bool y0 : Value)) hr0; exact hcc)
      · simp only [bne_eq_false_iff_eq] at hc4
        refine c_skip ?_
        refine q_block_normal (q_then ?_)
        refine c_region ?_
        refine o_pure (p_move (v := .int .i64 (i : Int)) rfl) rfl rfl rfl ?_
        refine o_pure (p_addb (p := (i : Int)) (q := 1) rfl rfl (by omega)) rfl rfl rfl ?_
        refine o_pure (p_assign (v := .int .i64 ((i : Int) + 1)) rfl) rfl rfl rfl ?_
        refine o_nil ?_
        refine q_round hK2 (i + 1) ?_ ?_ ?_ ?_
        · clear hK2
          refine ⟨by omega, ?_⟩
          grind
        · (try dsimp only); omega
        · exact Sub.cons rfl (Sub.cons rfl (Sub.cons rfl (Sub.nil _)))
        · exact fun _ hw => HeapIs.pick hw [0] (by decide) rfl
    · simp only [decide_eq_false_iff_not, Int.not_lt] at hc3
      refine c_exit ?_
      refine q_then_exit (q_then_exit (q_block_exit (q_then ?_)))
      refine c_seq ?_
      refine c_region ?_
      refine o_pure (p_assign (v := .bool true) rfl) rfl rfl rfl ?_
      refine o_nil ?_
      refine q_then ?_
      refine c_ret ?_
      have hr0 : (true : Bool) = (Ref.sameInts a b) := by
        simp only [Ref.sameInts]
        grind [List.ext_getElem]
      refine q_end0 (v := .bool true) (rt1 rfl (r_tmp rfl)) (i := 0) rfl ?_
      exact (by have hcc := congrArg (fun (y0 : Bool) => (.bool y0 : Value)) hr0; exact hcc)
end Go.Proofs.Ytkndekkacimekaa
