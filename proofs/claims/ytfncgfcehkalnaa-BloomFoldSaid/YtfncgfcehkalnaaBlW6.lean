/- The walks, printed by a program from the translation and a specification. -/
import Derived.Test.YtfncgfcehkalnaaBlF
import Derived.Test.YtfncgfcehkalnaaBlLaw
import Derived.Test.YtfncgfcehkalnaaBlW1
import Derived.Test.YtfncgfcehkalnaaBlLaw2
namespace Go.Proofs.Ytfncgfcehkalnaa
open Go.Sx Go.RowKit
set_option maxHeartbeats 8000000 in
set_option maxRecDepth 100000 in
theorem between_ok (n : Int) (a : Int) (b : Int) : Fn0 Try.prog 37 [Vi n, Vi a, Vi b] (fun _ => True) (.bool (Ref.between n a b)) := by
 refine fn0 (nt := 15) (F0 := [(0, Vi n), (1, Vi a), (2, Vi b)]) Try.func37 rfl Try.ntmps37 rfl rfl (fun w0 hpre => ?_)
 refine c_seq (c_region ?_)
 refine o_as rfl rfl ?_
 refine o_nil (q_then (c_seq (c_region ?_)))
 refine o_mv rfl rfl ?_
 refine o_mv rfl rfl ?_
 refine o_p (p_ge rfl rfl) ?_
 refine o_mv rfl rfl ?_
 refine o_and (p := 14) 4 (decide (n ≤ b)) ?_ ?_ ?_
 ·intro hb1 hk
  simp only [decide_eq_true_eq] at hb1
  refine o_unguard 10 rfl rfl ?_
  refine o_mv rfl rfl ?_
  refine o_unguard 10 rfl rfl ?_
  refine o_mv rfl rfl ?_
  refine o_unguard 10 rfl rfl ?_
  refine o_p (p_le rfl rfl) ?_
  refine o_pt rfl rfl rfl ?_
  exact o_sub (sr (Sub.skip rfl (Sub.skip rfl (Sub.skip rfl (Sub.skip rfl (Sub.skip rfl (Sub.refl _))))))) hk
 ·intro hb1 hk
  refine o_guard_no rfl 10 rfl rfl rfl rfl rfl ?_
  refine o_guard_no rfl 10 rfl rfl rfl rfl rfl ?_
  refine o_guard_no rfl 10 rfl rfl rfl rfl rfl ?_
  refine o_pf rfl rfl rfl ?_
  exact o_sub (sr (Sub.skip rfl (Sub.skip rfl (Sub.skip rfl (Sub.skip rfl (Sub.skip rfl (Sub.refl _))))))) hk
 refine o_as rfl rfl ?_
 refine o_nil (q_then (c_ret ?_))
 have hr0 : ((decide (a ≤ n) && decide (n ≤ b)) : Bool) = (Ref.between n a b) := by
  rfl
 refine q_end0 (v := .bool (decide (a ≤ n) && decide (n ≤ b))) (rt1 rfl (r_tmp rfl)) (i := 0) rfl ?_
 exact (by have hcc := congrArg (fun (y0 : Bool) => (.bool y0 : Value)) hr0; exact hcc)

set_option maxHeartbeats 8000000 in
set_option maxRecDepth 100000 in
theorem hasInt_ok (l : List Int) (al : Option Addr) (cl : Nat) (n : Int) : Fn0 Try.prog 26 [.slice al l.length cl, Vi n] (fun w => Rd tInt w al cl l) (.bool (Ref.hasInt l n)) := by
 refine fn0 (nt := 18) (F0 := [(0, .slice al l.length cl), (1, Vi n)]) Try.func26 rfl Try.ntmps26 rfl rfl (fun w0 hpre => ?_)
 have hl := hpre
 have hlhl := hl.2.1
 refine c_seq (c_region ?_)
 refine o_as rfl rfl ?_
 refine o_nil (q_then (c_seq (c_seq (c_region ?_))))
 refine o_as rfl rfl ?_
 refine o_nil (q_then (c_block ?_))
 refine c_loop (St := Nat)
  (fun i => [(0, .slice al l.length cl), (1, Vi n), (5, Vi (i : Int))])
  (fun i => [base w0])
  (fun i => i ≤ l.length ∧ ∀ j (h1 : j < l.length), j < i → l[j] ≠ n)
  (fun i => l.length - i)
  0 ?_ (sr (sr (sr (Sub.nil _)))) (fun _ hw => hw) ?_
 ·exact ⟨Nat.zero_le _, fun j _ h => absurd h (by omega)⟩
 rintro i hI K hK1
 obtain ⟨hi, hinv⟩ := hI
 show SC _ _ Try.prog 18 w0 _ _ [(0, .slice al l.length cl), (1, Vi n), (5, Vi (i : Int))] [base w0]
 refine c_seq (c_seq (c_region ?_))
 refine o_mv rfl rfl ?_
 refine o_mv rfl rfl ?_
 refine o_p (p_len_slice rfl rfl Try.underlying22) ?_
 refine o_p (p_lt rfl rfl) ?_
 refine o_nil (q_then ?_)
 refine c_cond rfl (fun hc2 => ?_) (fun hc2 => ?_)
 ·simp only [decide_eq_true_eq] at hc2
  refine c_skip (q_then (c_seq (c_block (c_seq (c_region ?_)))))
  refine o_mv rfl rfl ?_
  refine o_mv rfl rfl ?_
  refine o_p (p_indexAddr (L := l) (T := tInt) (i := (i : Int)) rfl rfl (rd_base (i := 0) rfl hl) Try.underlying22 sz3 (by omega) (by omega)) ?_
  refine o_p (p_loadE1 (i := i) (T := tInt) (L := l) (v := Vi (l[i])) rfl (rd_base (i := 0) rfl hl) (by first | assumption | omega) sh3 rfl) ?_
  refine o_mv rfl rfl ?_
  refine o_p (p_eq rfl rfl) ?_
  refine o_nil (q_then ?_)
  refine c_cond rfl (fun hc3 => ?_) (fun hc3 => ?_)
  ·simp only [beq_iff_eq] at hc3
   refine c_seq (c_region ?_)
   refine o_as rfl rfl ?_
   refine o_nil (q_then (c_ret ?_))
   refine q_block_ret (q_then_ret (q_then_ret (q_block_ret (q_then_ret ?_))))
   have hr0 : (true : Bool) = (Ref.hasInt l n) := by
    simp only [Ref.hasInt]
    grind [List.mem_iff_getElem]
   refine q_end0 (v := .bool true) (rt1 rfl (r_tmp rfl)) (i := 0) rfl ?_
   exact (by have hcc := congrArg (fun (y0 : Bool) => (.bool y0 : Value)) hr0; exact hcc)
  ·simp only [beq_eq_false_iff_ne, ne_eq] at hc3
   refine c_skip ?_
   refine q_block_normal (q_then ?_)
   refine c_region ?_
   refine o_mv rfl rfl ?_
   refine o_p (p_addb rfl rfl (by omega)) ?_
   refine o_as rfl rfl ?_
   refine o_nil ?_
   refine q_round hK1 (i + 1) ?_ ?_ ?_ ?_
   ·clear hK1
    refine ⟨by omega, ?_⟩
    grind
   ·(try dsimp only); omega
   ·exact sr (sr (sr (Sub.nil _)))
   ·exact pk [0]
 ·simp only [decide_eq_false_iff_not, Int.not_lt] at hc2
  refine c_exit ?_
  refine q_then_exit (q_then_exit (q_block_exit (q_then ?_)))
  refine c_seq (c_region ?_)
  refine o_as rfl rfl ?_
  refine o_nil (q_then (c_ret ?_))
  have hr0 : (false : Bool) = (Ref.hasInt l n) := by
   simp only [Ref.hasInt]
   grind [List.mem_iff_getElem]
  refine q_end0 (v := .bool false) (rt1 rfl (r_tmp rfl)) (i := 0) rfl ?_
  exact (by have hcc := congrArg (fun (y0 : Bool) => (.bool y0 : Value)) hr0; exact hcc)

set_option maxHeartbeats 8000000 in
set_option maxRecDepth 100000 in
theorem sameInts_ok (a : List Int) (aa : Option Addr) (ca : Nat) (b : List Int) (ab : Option Addr) (cb : Nat) : Fn0 Try.prog 18 [.slice aa a.length ca, .slice ab b.length cb] (fun w => Rd tInt w aa ca a ∧ Rd tInt w ab cb b) (.bool (Ref.sameInts a b)) := by
 refine fn0 (nt := 26) (F0 := [(0, .slice aa a.length ca), (1, .slice ab b.length cb)]) Try.func18 rfl Try.ntmps18 rfl rfl (fun w0 hpre => ?_)
 obtain ⟨ha, hb⟩ := hpre
 have hlha := ha.2.1
 have hlhb := hb.2.1
 refine c_seq (c_region ?_)
 refine o_as rfl rfl ?_
 refine o_nil (q_then (c_seq (c_seq (c_region ?_))))
 refine o_mv rfl rfl ?_
 refine o_p (p_len_slice rfl rfl Try.underlying22) ?_
 refine o_mv rfl rfl ?_
 refine o_p (p_len_slice rfl rfl Try.underlying22) ?_
 refine o_p (p_ne rfl rfl) ?_
 refine o_nil (q_then ?_)
 refine c_cond rfl (fun hc1 => ?_) (fun hc1 => ?_)
 ·simp only [bne_iff_ne, ne_eq] at hc1
  refine c_seq (c_region ?_)
  refine o_as rfl rfl ?_
  refine o_nil (q_then (c_ret ?_))
  refine q_then_ret ?_
  have hr0 : (false : Bool) = (Ref.sameInts a b) := by
   simp only [Ref.sameInts]
   grind [List.ext_getElem]
  refine q_end0 (v := .bool false) (rt1 rfl (r_tmp rfl)) (i := 0) rfl ?_
  exact (by have hcc := congrArg (fun (y0 : Bool) => (.bool y0 : Value)) hr0; exact hcc)
 ·simp only [bne_eq_false_iff_eq] at hc1
  refine c_skip (q_then (c_seq (c_seq (c_region ?_))))
  refine o_as rfl rfl ?_
  refine o_nil (q_then (c_block ?_))
  refine c_loop (St := Nat)
   (fun i => [(0, .slice aa a.length ca), (1, .slice ab b.length cb), (5, Vi (i : Int))])
   (fun i => [base w0])
   (fun i => i ≤ a.length ∧ ∀ j (h1 : j < a.length) (h2 : j < b.length), j < i → a[j] = b[j])
   (fun i => a.length - i)
   0 ?_ (sr (sr (sr (Sub.nil _)))) (fun _ hw => hw) ?_
  ·exact ⟨Nat.zero_le _, fun j _ _ h => absurd h (by omega)⟩
  rintro i hI K hK2
  obtain ⟨hi, hinv⟩ := hI
  show SC _ _ Try.prog 26 w0 _ _ [(0, .slice aa a.length ca), (1, .slice ab b.length cb), (5, Vi (i : Int))] [base w0]
  refine c_seq (c_seq (c_region ?_))
  refine o_mv rfl rfl ?_
  refine o_mv rfl rfl ?_
  refine o_p (p_len_slice rfl rfl Try.underlying22) ?_
  refine o_p (p_lt rfl rfl) ?_
  refine o_nil (q_then ?_)
  refine c_cond rfl (fun hc3 => ?_) (fun hc3 => ?_)
  ·simp only [decide_eq_true_eq] at hc3
   refine c_skip (q_then (c_seq (c_block (c_seq ?_))))
   refine c_draw hmix (by kernel_rfl) ?_
   refine w_mv rfl rfl ?_
   refine w_mv rfl rfl ?_
   refine w_p (p_indexAddr (L := a) (T := tInt) (i := (i : Int)) rfl rfl (rd_base (i := 0) rfl ha) Try.underlying22 sz3 (by omega) (by omega)) ?_
   refine w_p (p_loadE1 (i := i) (T := tInt) (L := a) (v := Vi (a[i])) rfl (rd_base (i := 0) rfl ha) (by first | assumption | omega) sh3 rfl) ?_
   refine w_mv rfl rfl ?_
   refine w_mv rfl rfl ?_
   refine w_p (p_indexAddr (L := b) (T := tInt) (i := (i : Int)) rfl rfl (rd_base (i := 0) rfl hb) Try.underlying22 sz3 (by omega) (by omega)) ?_
   refine w_p (p_loadE1 (i := i) (T := tInt) (L := b) (v := Vi (b[i])) rfl (rd_base (i := 0) rfl hb) (by first | assumption | omega) sh3 rfl) ?_
   refine w_p (p_ne rfl rfl) ?_
   refine w_nil (q_then ?_)
   refine c_cond rfl (fun hc4 => ?_) (fun hc4 => ?_)
   ·simp only [bne_iff_ne, ne_eq] at hc4
    refine c_seq (c_region ?_)
    refine o_as rfl rfl ?_
    refine o_nil (q_then (c_ret ?_))
    refine q_block_ret (q_then_ret (q_then_ret (q_block_ret (q_then_ret ?_))))
    have hr0 : (false : Bool) = (Ref.sameInts a b) := by
     simp only [Ref.sameInts]
     grind [List.ext_getElem]
    refine q_end0 (v := .bool false) (rt1 rfl (r_tmp rfl)) (i := 0) rfl ?_
    exact (by have hcc := congrArg (fun (y0 : Bool) => (.bool y0 : Value)) hr0; exact hcc)
   ·simp only [bne_eq_false_iff_eq] at hc4
    refine c_skip ?_
    refine q_block_normal (q_then ?_)
    refine c_region ?_
    refine o_mv rfl rfl ?_
    refine o_p (p_addb rfl rfl (by omega)) ?_
    refine o_as rfl rfl ?_
    refine o_nil ?_
    refine q_round hK2 (i + 1) ?_ ?_ ?_ ?_
    ·clear hK2
     refine ⟨by omega, ?_⟩
     grind
    ·(try dsimp only); omega
    ·exact sr (sr (sr (Sub.nil _)))
    ·exact pk [0]
  ·simp only [decide_eq_false_iff_not, Int.not_lt] at hc3
   refine c_exit ?_
   refine q_then_exit (q_then_exit (q_block_exit (q_then ?_)))
   refine c_seq (c_region ?_)
   refine o_as rfl rfl ?_
   refine o_nil (q_then (c_ret ?_))
   have hr0 : (true : Bool) = (Ref.sameInts a b) := by
    simp only [Ref.sameInts]
    grind [List.ext_getElem]
   refine q_end0 (v := .bool true) (rt1 rfl (r_tmp rfl)) (i := 0) rfl ?_
   exact (by have hcc := congrArg (fun (y0 : Bool) => (.bool y0 : Value)) hr0; exact hcc)

set_option maxHeartbeats 8000000 in
set_option maxRecDepth 100000 in
theorem half_ok (n : UInt64) (many : Int) (hy1 : 0 ≤ many ∧ many ≤ 64) : Fn0 Try.prog 89 [.int .u64 (n.toNat : Int), Vi many] (fun _ => True) (.int .u64 ((shrU n many.toNat).toNat : Int)) := by
 refine fn0 (nt := 14) (F0 := [(0, .int .u64 (n.toNat : Int)), (1, Vi many)]) Try.func89 rfl Try.ntmps89 rfl rfl (fun w0 hpre => ?_)
 refine c_seq (c_region ?_)
 refine o_as rfl rfl ?_
 refine o_nil (q_then (c_seq (c_seq (c_region ?_))))
 refine o_as rfl rfl ?_
 refine o_nil (q_then (c_block ?_))
 refine c_loop (St := UInt64 × Nat)
  (fun ⟨m, i⟩ => [(0, .int .u64 (m.toNat : Int)), (1, Vi many), (5, Vi (i : Int))])
  (fun ⟨m, i⟩ => [base w0])
  (fun ⟨m, i⟩ => i ≤ many.toNat ∧ m = shrU n i)
  (fun ⟨m, i⟩ => many.toNat - i)
  (n, 0) ?_ (sr (sr (sr (Sub.nil _)))) (fun _ hw => hw) ?_
 ·exact ⟨Nat.zero_le _, (Hash.shrU_zero n).symm⟩
 rintro ⟨m, i⟩ hI K hK1
 obtain ⟨hk, ho⟩ := hI
 show SC _ _ Try.prog 14 w0 _ _ [(0, .int .u64 (m.toNat : Int)), (1, Vi many), (5, Vi (i : Int))] [base w0]
 refine c_seq (c_seq (c_region ?_))
 refine o_mv rfl rfl ?_
 refine o_mv rfl rfl ?_
 refine o_p (p_lt rfl rfl) ?_
 refine o_nil (q_then ?_)
 refine c_cond rfl (fun hc2 => ?_) (fun hc2 => ?_)
 ·simp only [decide_eq_true_eq] at hc2
  refine c_skip (q_then (c_seq (c_block (c_region ?_))))
  refine o_mv rfl rfl ?_
  refine o_p (pu_quo (p := m) (q := (2 : UInt64)) rfl rfl (by first | decide | assumption)) ?_
  refine o_as rfl rfl ?_
  refine o_nil ?_
  refine q_block_normal (q_then ?_)
  refine c_region ?_
  refine o_mv rfl rfl ?_
  refine o_p (p_addb rfl rfl (by omega)) ?_
  refine o_as rfl rfl ?_
  refine o_nil ?_
  refine q_round hK1 ((m / (2 : UInt64)), i + 1) ?_ ?_ ?_ ?_
  ·clear hK1
   exact ⟨by omega, by rw [ho]; exact Hash.half_step n i⟩
  ·(try dsimp only); omega
  ·exact sr (sr (sr (Sub.nil _)))
  ·exact pk [0]
 ·simp only [decide_eq_false_iff_not, Int.not_lt] at hc2
  refine c_exit ?_
  refine q_then_exit (q_then_exit (q_block_exit (q_then ?_)))
  refine c_seq (c_region ?_)
  refine o_mv rfl rfl ?_
  refine o_as rfl rfl ?_
  refine o_nil (q_then (c_ret ?_))
  refine q_end0 (v := .int .u64 (m.toNat : Int)) (rt1 rfl (r_tmp rfl)) (i := 0) rfl ?_
  rw [show m = shrU n many.toNat by rw [ho]; congr 1; omega]

set_option maxHeartbeats 8000000 in
set_option maxRecDepth 100000 in
theorem times_ok (a : UInt64) (b : UInt64) : Fn0 Try.prog 90 [.int .u64 (a.toNat : Int), .int .u64 (b.toNat : Int)] (fun _ => True) (.int .u64 ((a * b).toNat : Int)) := by
 refine fn0 (nt := 20) (F0 := [(0, .int .u64 (a.toNat : Int)), (1, .int .u64 (b.toNat : Int))]) Try.func90 rfl Try.ntmps90 rfl rfl (fun w0 hpre => ?_)
 refine c_seq (c_region ?_)
 refine o_as rfl rfl ?_
 refine o_nil (q_then (c_seq (c_region ?_)))
 refine o_as rfl rfl ?_
 refine o_nil (q_then (c_seq (c_block ?_)))
 refine c_loop (St := UInt64 × UInt64 × UInt64)
  (fun ⟨a1, b1, sm⟩ => [(0, .int .u64 (a1.toNat : Int)), (1, .int .u64 (b1.toNat : Int)), (5, .int .u64 (sm.toNat : Int))])
  (fun ⟨a1, b1, sm⟩ => [base w0])
  (fun ⟨a1, b1, sm⟩ => sm + a1 * b1 = a * b)
  (fun ⟨a1, b1, sm⟩ => b1.toNat)
  (a, b, (0 : UInt64)) ?_ (sr (sr (sr (Sub.nil _)))) (fun _ hw => hw) ?_
 ·simp
 rintro ⟨a1, b1, sm⟩ hI K hK1
 show SC _ _ Try.prog 20 w0 _ _ [(0, .int .u64 (a1.toNat : Int)), (1, .int .u64 (b1.toNat : Int)), (5, .int .u64 (sm.toNat : Int))] [base w0]
 refine c_seq (c_seq (c_region ?_))
 refine o_mv rfl rfl ?_
 refine o_p (pu_gt (p := b1) (q := (0 : UInt64)) rfl rfl) ?_
 refine o_nil (q_then ?_)
 refine c_cond rfl (fun hc2 => ?_) (fun hc2 => ?_)
 ·simp only [decide_eq_true_eq] at hc2
  refine c_skip (q_then (c_block (c_seq (c_seq (c_region ?_)))))
  refine o_mv rfl rfl ?_
  refine o_p (pu_rem (p := b1) (q := (2 : UInt64)) rfl rfl (by first | decide | assumption)) ?_
  refine o_p (pu_eq (p := (b1 % (2 : UInt64))) (q := (1 : UInt64)) rfl rfl) ?_
  refine o_nil (q_then ?_)
  refine c_cond rfl (fun hc3 => ?_) (fun hc3 => ?_)
  ·simp only [beq_iff_eq] at hc3
   refine c_region ?_
   refine o_mv rfl rfl ?_
   refine o_mv rfl rfl ?_
   refine o_p (pu_add (p := sm) (q := a1) rfl rfl) ?_
   refine o_as rfl rfl ?_
   refine o_nil (q_then (c_seq (c_region ?_)))
   refine o_mv rfl rfl ?_
   refine o_mv rfl rfl ?_
   refine o_p (pu_add (p := a1) (q := a1) rfl rfl) ?_
   refine o_as rfl rfl ?_
   refine o_nil (q_then (c_region ?_))
   refine o_mv rfl rfl ?_
   refine o_p (pu_quo (p := b1) (q := (2 : UInt64)) rfl rfl (by first | decide | assumption)) ?_
   refine o_as rfl rfl ?_
   refine o_nil ?_
   refine q_block_normal ?_
   refine q_round hK1 ((a1 + a1), (b1 / (2 : UInt64)), (sm + a1)) ?_ ?_ ?_ ?_
   ·clear hK1
    first | exact Hash.times_odd hI (by assumption) | exact Hash.times_even hI (by assumption)
   ·exact Hash.half_less (by assumption)
   ·exact sr (sr (sr (Sub.nil _)))
   ·exact pk [0]
  ·simp only [beq_eq_false_iff_ne, ne_eq] at hc3
   refine c_skip (q_then (c_seq (c_region ?_)))
   refine o_mv rfl rfl ?_
   refine o_mv rfl rfl ?_
   refine o_p (pu_add (p := a1) (q := a1) rfl rfl) ?_
   refine o_as rfl rfl ?_
   refine o_nil (q_then (c_region ?_))
   refine o_mv rfl rfl ?_
   refine o_p (pu_quo (p := b1) (q := (2 : UInt64)) rfl rfl (by first | decide | assumption)) ?_
   refine o_as rfl rfl ?_
   refine o_nil ?_
   refine q_block_normal ?_
   refine q_round hK1 ((a1 + a1), (b1 / (2 : UInt64)), sm) ?_ ?_ ?_ ?_
   ·clear hK1
    first | exact Hash.times_odd hI (by assumption) | exact Hash.times_even hI (by assumption)
   ·exact Hash.half_less (by assumption)
   ·exact sr (sr (sr (Sub.nil _)))
   ·exact pk [0]
 ·simp only [decide_eq_false_iff_not, Int.not_lt] at hc2
  refine c_exit ?_
  refine q_then_exit (q_then_exit (q_block_exit (q_then ?_)))
  refine c_seq (c_region ?_)
  refine o_mv rfl rfl ?_
  refine o_as rfl rfl ?_
  refine o_nil (q_then (c_ret ?_))
  refine q_end0 (v := .int .u64 (sm.toNat : Int)) (rt1 rfl (r_tmp rfl)) (i := 0) rfl ?_
  rw [Hash.times_end hI (by assumption)]

set_option maxHeartbeats 8000000 in
set_option maxRecDepth 100000 in
theorem mixSum_ok (s : ByteArray) : Fn0 Try.prog 63 [.string s] (fun w => s.size ≤ 9223372036854775807) (.int .u64 ((Hash.raw s).toNat : Int)) := by
 refine fn0 (nt := 19) (F0 := [(0, .string s)]) Try.func63 rfl Try.ntmps63 rfl rfl (fun w0 hpre => ?_)
 have hs := hpre
 refine c_seq (c_region ?_)
 refine o_as rfl rfl ?_
 refine o_nil (q_then (c_seq (c_region ?_)))
 refine o_as rfl rfl ?_
 refine o_nil (q_then (c_seq (c_seq (c_region ?_))))
 refine o_as rfl rfl ?_
 refine o_nil (q_then (c_block ?_))
 refine c_loop (St := UInt64 × Nat)
  (fun ⟨n, i⟩ => [(0, .string s), (3, .int .u64 (n.toNat : Int)), (4, Vi (i : Int))])
  (fun ⟨n, i⟩ => [base w0])
  (fun ⟨n, i⟩ => i ≤ s.size ∧ n = Hash.rawTo s i)
  (fun ⟨n, i⟩ => s.size - i)
  ((14695981039346656037 : UInt64), 0) ?_ (sr (sr (sr (Sub.nil _)))) (fun _ hw => hw) ?_
 ·exact ⟨Nat.zero_le _, rfl⟩
 rintro ⟨n, i⟩ hI K hK1
 obtain ⟨hk, ho⟩ := hI
 show SC _ _ Try.prog 19 w0 _ _ [(0, .string s), (3, .int .u64 (n.toNat : Int)), (4, Vi (i : Int))] [base w0]
 refine c_seq (c_seq (c_region ?_))
 refine o_mv rfl rfl ?_
 refine o_mv rfl rfl ?_
 refine o_p (p_len_string rfl rfl Try.underlying9) ?_
 refine o_p (p_lt rfl rfl) ?_
 refine o_nil (q_then ?_)
 refine c_cond rfl (fun hc2 => ?_) (fun hc2 => ?_)
 ·simp only [decide_eq_true_eq] at hc2
  refine c_skip (q_then (c_seq (c_block (c_region ?_))))
  refine o_mv rfl rfl ?_
  refine o_mv rfl rfl ?_
  refine o_mv rfl rfl ?_
  refine o_p (p_indexStr (z := (i : Int)) (i := i) rfl rfl Try.underlying9 (by omega) (by omega)) ?_
  refine o_p (pu_convB (c := (byteAt s i)) rfl Try.underlying5 Try.underlying81) ?_
  refine o_p (pu_xor (p := n) (q := (byteAt s i).toUInt64) rfl rfl) ?_
  refine o_call0 (v := .int .u64 (((n ^^^ (byteAt s i).toUInt64) * (1099511628211 : UInt64)).toNat : Int)) rfl (times_ok (n ^^^ (byteAt s i).toUInt64) (1099511628211 : UInt64)) hf90 (fun _ _ => trivial) rfl ?_
  refine o_as rfl rfl ?_
  refine o_nil ?_
  refine q_block_normal (q_then ?_)
  refine c_region ?_
  refine o_mv rfl rfl ?_
  refine o_p (p_addb rfl rfl (by omega)) ?_
  refine o_as rfl rfl ?_
  refine o_nil ?_
  refine q_round hK1 (((n ^^^ (byteAt s i).toUInt64) * (1099511628211 : UInt64)), i + 1) ?_ ?_ ?_ ?_
  ·clear hK1
   exact ⟨by omega, by rw [ho]; rfl⟩
  ·(try dsimp only); omega
  ·exact sr (sr (sr (Sub.nil _)))
  ·exact pk [0]
 ·simp only [decide_eq_false_iff_not, Int.not_lt] at hc2
  refine c_exit ?_
  refine q_then_exit (q_then_exit (q_block_exit (q_then ?_)))
  refine c_seq (c_region ?_)
  refine o_mv rfl rfl ?_
  refine o_as rfl rfl ?_
  refine o_nil (q_then (c_ret ?_))
  refine q_end0 (v := .int .u64 (n.toNat : Int)) (rt1 rfl (r_tmp rfl)) (i := 0) rfl ?_
  rw [show n = Hash.raw s by unfold Hash.raw; rw [ho]; congr 1; omega]

set_option maxHeartbeats 8000000 in
set_option maxRecDepth 100000 in
theorem mixOf_ok (n : UInt64) : Fn0 Try.prog 62 [.int .u64 (n.toNat : Int)] (fun _ => True) (.int .u64 ((Hash.mix n).toNat : Int)) := by
 refine fn0 (nt := 17) (F0 := [(0, .int .u64 (n.toNat : Int))]) Try.func62 rfl Try.ntmps62 rfl rfl (fun w0 hpre => ?_)
 refine c_seq (c_region ?_)
 refine o_as rfl rfl ?_
 refine o_nil (q_then (c_seq (c_region ?_)))
 refine o_mv rfl rfl ?_
 refine o_mv rfl rfl ?_
 refine o_call0 (v := .int .u64 ((shrU n (30 : Int).toNat).toNat : Int)) rfl (half_ok n 30 (by first | assumption | omega | decide)) hf89 (fun _ _ => trivial) rfl ?_
 refine o_p (pu_xor (p := n) (q := (shrU n (30 : Int).toNat)) rfl rfl) ?_
 refine o_call0 (v := .int .u64 (((n ^^^ (shrU n (30 : Int).toNat)) * (13787848793156543929 : UInt64)).toNat : Int)) rfl (times_ok (n ^^^ (shrU n (30 : Int).toNat)) (13787848793156543929 : UInt64)) hf90 (fun _ _ => trivial) rfl ?_
 refine o_as rfl rfl ?_
 refine o_nil (q_then (c_seq (c_region ?_)))
 refine o_mv rfl rfl ?_
 refine o_mv rfl rfl ?_
 refine o_call0 (v := .int .u64 ((shrU ((n ^^^ (shrU n (30 : Int).toNat)) * (13787848793156543929 : UInt64)) (27 : Int).toNat).toNat : Int)) rfl (half_ok ((n ^^^ (shrU n (30 : Int).toNat)) * (13787848793156543929 : UInt64)) 27 (by first | assumption | omega | decide)) hf89 (fun _ _ => trivial) rfl ?_
 refine o_p (pu_xor (p := ((n ^^^ (shrU n (30 : Int).toNat)) * (13787848793156543929 : UInt64))) (q := (shrU ((n ^^^ (shrU n (30 : Int).toNat)) * (13787848793156543929 : UInt64)) (27 : Int).toNat)) rfl rfl) ?_
 refine o_call0 (v := .int .u64 (((((n ^^^ (shrU n (30 : Int).toNat)) * (13787848793156543929 : UInt64)) ^^^ (shrU ((n ^^^ (shrU n (30 : Int).toNat)) * (13787848793156543929 : UInt64)) (27 : Int).toNat)) * (10723151780598845931 : UInt64)).toNat : Int)) rfl (times_ok (((n ^^^ (shrU n (30 : Int).toNat)) * (13787848793156543929 : UInt64)) ^^^ (shrU ((n ^^^ (shrU n (30 : Int).toNat)) * (13787848793156543929 : UInt64)) (27 : Int).toNat)) (10723151780598845931 : UInt64)) hf90 (fun _ _ => trivial) rfl ?_
 refine o_as rfl rfl ?_
 refine o_nil (q_then (c_seq (c_region ?_)))
 refine o_mv rfl rfl ?_
 refine o_mv rfl rfl ?_
 refine o_call0 (v := .int .u64 ((shrU ((((n ^^^ (shrU n (30 : Int).toNat)) * (13787848793156543929 : UInt64)) ^^^ (shrU ((n ^^^ (shrU n (30 : Int).toNat)) * (13787848793156543929 : UInt64)) (27 : Int).toNat)) * (10723151780598845931 : UInt64)) (31 : Int).toNat).toNat : Int)) rfl (half_ok ((((n ^^^ (shrU n (30 : Int).toNat)) * (13787848793156543929 : UInt64)) ^^^ (shrU ((n ^^^ (shrU n (30 : Int).toNat)) * (13787848793156543929 : UInt64)) (27 : Int).toNat)) * (10723151780598845931 : UInt64)) 31 (by first | assumption | omega | decide)) hf89 (fun _ _ => trivial) rfl ?_
 refine o_p (pu_xor (p := ((((n ^^^ (shrU n (30 : Int).toNat)) * (13787848793156543929 : UInt64)) ^^^ (shrU ((n ^^^ (shrU n (30 : Int).toNat)) * (13787848793156543929 : UInt64)) (27 : Int).toNat)) * (10723151780598845931 : UInt64))) (q := (shrU ((((n ^^^ (shrU n (30 : Int).toNat)) * (13787848793156543929 : UInt64)) ^^^ (shrU ((n ^^^ (shrU n (30 : Int).toNat)) * (13787848793156543929 : UInt64)) (27 : Int).toNat)) * (10723151780598845931 : UInt64)) (31 : Int).toNat)) rfl rfl) ?_
 refine o_as rfl rfl ?_
 refine o_nil (q_then (c_ret ?_))
 refine q_end0 (v := .int .u64 ((((((n ^^^ (shrU n (30 : Int).toNat)) * (13787848793156543929 : UInt64)) ^^^ (shrU ((n ^^^ (shrU n (30 : Int).toNat)) * (13787848793156543929 : UInt64)) (27 : Int).toNat)) * (10723151780598845931 : UInt64)) ^^^ (shrU ((((n ^^^ (shrU n (30 : Int).toNat)) * (13787848793156543929 : UInt64)) ^^^ (shrU ((n ^^^ (shrU n (30 : Int).toNat)) * (13787848793156543929 : UInt64)) (27 : Int).toNat)) * (10723151780598845931 : UInt64)) (31 : Int).toNat)).toNat : Int)) (rt1 rfl (r_tmp rfl)) (i := 0) rfl ?_
 rfl

set_option maxHeartbeats 8000000 in
set_option maxRecDepth 100000 in
theorem mixFold_ok (n : UInt64) (most : Int) : Fn0 Try.prog 61 [.int .u64 (n.toNat : Int), Vi most] (fun _ => True) (Vi (Hash.rawFold n most)) := by
 refine fn0 (nt := 14) (F0 := [(0, .int .u64 (n.toNat : Int)), (1, Vi most)]) Try.func61 rfl Try.ntmps61 rfl rfl (fun w0 hpre => ?_)
 refine c_seq (c_region ?_)
 refine o_as rfl rfl ?_
 refine o_nil (q_then (c_seq (c_region ?_)))
 refine o_mv rfl rfl ?_
 refine o_call0 (v := .int .u64 ((shrU n (32 : Int).toNat).toNat : Int)) rfl (half_ok n 32 (by first | assumption | omega | decide)) hf89 (fun _ _ => trivial) rfl ?_
 refine o_as rfl rfl ?_
 refine o_nil (q_then (c_seq (c_region ?_)))
 refine o_mv rfl rfl ?_
 refine o_mv rfl rfl ?_
 refine o_p (pu_conv (z := most) rfl Try.underlying3 Try.underlying81) ?_
 refine o_call0 (v := .int .u64 (((shrU n (32 : Int).toNat) * (toU most)).toNat : Int)) rfl (times_ok (shrU n (32 : Int).toNat) (toU most)) hf90 (fun _ _ => trivial) rfl ?_
 refine o_call0 (v := .int .u64 ((shrU ((shrU n (32 : Int).toNat) * (toU most)) (32 : Int).toNat).toNat : Int)) rfl (half_ok ((shrU n (32 : Int).toNat) * (toU most)) 32 (by first | assumption | omega | decide)) hf89 (fun _ _ => trivial) rfl ?_
 refine o_p (p_conv (z := ((shrU ((shrU n (32 : Int).toNat) * (toU most)) (32 : Int).toNat).toNat : Int)) rfl Try.underlying81 Try.underlying3) ?_
 refine o_as rfl rfl ?_
 refine o_nil (q_then (c_ret ?_))
 refine q_end0 (v := Vi (IntKind.i64.wrap ((shrU ((shrU n (32 : Int).toNat) * (toU most)) (32 : Int).toNat).toNat : Int))) (rt1 rfl (r_tmp rfl)) (i := 0) rfl ?_
 rfl

set_option maxHeartbeats 8000000 in
set_option maxRecDepth 100000 in
theorem bloomCheck_ok (f : DFilter) (af_0 : Option Addr) (cf_0 : Nat) : Fn0 Try.prog 15 [.agg #[Vi f.size, Vi f.hashes, .slice af_0 f.set.length cf_0]] (fun w => Rd tInt w af_0 cf_0 f.set) (Vi (Bl.check f)) := by
 refine fn0 (nt := 53) (F0 := [(0, .agg #[Vi f.size, Vi f.hashes, .slice af_0 f.set.length cf_0])]) Try.func15 rfl Try.ntmps15 rfl rfl (fun w0 hpre => ?_)
 have hf_0 := hpre
 have hlhf_0 := hf_0.2.1
 refine c_seq (c_region ?_)
 refine o_box (v := .agg #[Vi f.size, Vi f.hashes, .slice af_0 f.set.length cf_0]) rfl rfl (fun B1 => ?_)
 refine o_as rfl rfl ?_
 refine o_nil (q_then (c_seq (c_seq (c_region ?_))))
 refine o_p (p_fieldAddr (j' := 0) rfl fo24_0 rfl) ?_
 refine o_p (p_load (i := 0) (v := Vi f.size) rfl rfl sh3 rfl) ?_
 refine o_call0 (v := .bool (Ref.between f.size (1 : Int) (1024 : Int))) rfl (between_ok f.size (1 : Int) (1024 : Int)) hf37 (fun _ _ => trivial) rfl ?_
 refine o_p (p_not (b := (Ref.between f.size (1 : Int) (1024 : Int))) rfl) ?_
 refine o_mv rfl rfl ?_
 refine o_or (p := 13) 5 (!(Ref.between f.hashes (1 : Int) (8 : Int))) ?_ ?_ ?_
 ·intro hb2 hk
  simp only [Bool.not_eq_false'] at hb2
  refine o_unguard 8 rfl rfl ?_
  refine o_p (p_fieldAddr (j' := 1) rfl fo24_1 rfl) ?_
  refine o_unguard 8 rfl rfl ?_
  refine o_p (p_load (i := 0) (v := Vi f.hashes) rfl rfl sh3 rfl) ?_
  refine o_unguard 8 rfl rfl ?_
  refine o_call0 (v := .bool (Ref.between f.hashes (1 : Int) (8 : Int))) rfl (between_ok f.hashes (1 : Int) (8 : Int)) hf37 (fun _ _ => trivial) rfl ?_
  refine o_unguard 8 rfl rfl ?_
  refine o_p (p_not (b := (Ref.between f.hashes (1 : Int) (8 : Int))) rfl) ?_
  refine o_pf rfl rfl rfl ?_
  exact o_sub (sr (Sub.skip rfl (Sub.skip rfl (Sub.skip rfl (Sub.skip rfl (Sub.skip rfl (Sub.skip rfl (Sub.refl _)))))))) hk
 ·intro hb2 hk
  refine o_guard_no rfl 8 rfl rfl rfl rfl rfl ?_
  refine o_guard_no rfl 8 rfl rfl rfl rfl rfl ?_
  refine o_guard_no rfl 8 rfl rfl rfl rfl rfl ?_
  refine o_guard_no rfl 8 rfl rfl rfl rfl rfl ?_
  refine o_pt rfl rfl rfl ?_
  exact o_sub (sr (Sub.skip rfl (Sub.skip rfl (Sub.skip rfl (Sub.skip rfl (Sub.skip rfl (Sub.skip rfl (Sub.refl _)))))))) hk
 refine o_nil (q_then ?_)
 refine c_cond rfl (fun hc3 => ?_) (fun hc3 => ?_)
 ·simp only [Bool.or_eq_true, Bool.not_eq_true'] at hc3
  have hb1 := hc3
  refine c_seq (c_region ?_)
  refine o_as rfl rfl ?_
  refine o_nil (q_then (c_ret ?_))
  refine q_then_ret ?_
  have hr0 : (3 : Int) = (Bl.check f) := by
   first | exact Bl.chk1 (Bl.rg0 hb1) | exact Bl.chk2 hb2 (by omega) | exact Bl.chk3 hb2 (by omega) (Bl.rc_bad hI (by omega) (Bl.bt0 hbt)) | exact Bl.chk3 hb2 (by omega) (Bl.rc_low hI (by omega) (Bl.bt1 hbt) (by assumption)) | exact Bl.chk3 hb2 (by omega) (hI.done (by omega))
  refine q_end0 (v := Vi 3) (rt1 rfl (r_tmp rfl)) (i := 1) rfl ?_
  exact (by have hcc := congrArg (fun (y0 : Int) => (.int .i64 y0 : Value)) hr0; exact hcc)
 ·simp only [Bool.or_eq_false_iff, Bool.not_eq_false'] at hc3
  have hb1 := hc3
  have hb2 := Bl.rg1 hc3
  refine c_skip (q_then (c_seq (c_seq (c_region ?_))))
  refine o_p (p_fieldAddr (j' := 2) rfl fo24_2 rfl) ?_
  refine o_p (p_load (i := 0) (v := .slice af_0 f.set.length cf_0) rfl rfl sh22 rfl) ?_
  refine o_p (p_len_slice rfl rfl Try.underlying22) ?_
  refine o_p (p_fieldAddr (j' := 0) rfl fo24_0 rfl) ?_
  refine o_p (p_load (i := 0) (v := Vi f.size) rfl rfl sh3 rfl) ?_
  refine o_p (p_gt rfl rfl) ?_
  refine o_nil (q_then ?_)
  refine c_cond rfl (fun hc4 => ?_) (fun hc4 => ?_)
  ·simp only [decide_eq_true_eq] at hc4
   refine c_seq (c_region ?_)
   refine o_as rfl rfl ?_
   refine o_nil (q_then (c_ret ?_))
   refine q_then_ret ?_
   have hr0 : (2 : Int) = (Bl.check f) := by
    first | exact Bl.chk1 (Bl.rg0 hb1) | exact Bl.chk2 hb2 (by omega) | exact Bl.chk3 hb2 (by omega) (Bl.rc_bad hI (by omega) (Bl.bt0 hbt)) | exact Bl.chk3 hb2 (by omega) (Bl.rc_low hI (by omega) (Bl.bt1 hbt) (by assumption)) | exact Bl.chk3 hb2 (by omega) (hI.done (by omega))
   refine q_end0 (v := Vi 2) (rt1 rfl (r_tmp rfl)) (i := 1) rfl ?_
   exact (by have hcc := congrArg (fun (y0 : Int) => (.int .i64 y0 : Value)) hr0; exact hcc)
  ·simp only [decide_eq_false_iff_not, Int.not_lt] at hc4
   refine c_skip (q_then (c_seq (c_seq (c_region ?_))))
   refine o_as rfl rfl ?_
   refine o_nil (q_then (c_block ?_))
   refine c_loop (St := Nat)
    (fun k => [(1, .pointer (some ⟨B1, 0, none⟩)), (3, Vi (k : Int))])
    (fun k => [box B1 [Vi f.size, Vi f.hashes, .slice af_0 f.set.length cf_0] 24, base w0])
    (fun k => Bl.CkI f (Bl.lastAt f k) k)
    (fun k => f.set.length - k)
    0 ?_ (sr (sr (Sub.nil _))) (fun _ hw => hw) ?_
   ·exact Bl.CkI.start f
   rintro k hI K hK5
   have hle := hI.le
   show SC _ _ Try.prog 53 w0 _ _ [(1, .pointer (some ⟨B1, 0, none⟩)), (3, Vi (k : Int))] [box B1 [Vi f.size, Vi f.hashes, .slice af_0 f.set.length cf_0] 24, base w0]
   refine c_seq (c_seq (c_region ?_))
   refine o_mv rfl rfl ?_
   refine o_p (p_fieldAddr (j' := 2) rfl fo24_2 rfl) ?_
   refine o_p (p_load (i := 0) (v := .slice af_0 f.set.length cf_0) rfl rfl sh22 rfl) ?_
   refine o_p (p_len_slice rfl rfl Try.underlying22) ?_
   refine o_p (p_lt rfl rfl) ?_
   refine o_nil (q_then ?_)
   refine c_cond rfl (fun hc6 => ?_) (fun hc6 => ?_)
   ·simp only [decide_eq_true_eq] at hc6
    refine c_skip (q_then (c_seq (c_block (c_seq (c_seq ?_)))))
    refine c_draw hmix (by kernel_rfl) ?_
    refine w_p (p_fieldAddr (j' := 2) rfl fo24_2 rfl) ?_
    refine w_p (p_load (i := 0) (v := .slice af_0 f.set.length cf_0) rfl rfl sh22 rfl) ?_
    refine w_mv rfl rfl ?_
    refine w_p (p_indexAddr (L := f.set) (T := tInt) (i := (k : Int)) rfl rfl (rd_base (i := 1) rfl hf_0) Try.underlying22 sz3 (by omega) (by omega)) ?_
    refine w_p (p_loadE1 (i := k) (T := tInt) (L := f.set) (v := Vi (f.set.getD k default)) rfl (rd_base (i := 1) rfl hf_0) (by first | assumption | omega) sh3 (congrArg tInt.enc (getd_at (by first | assumption | omega) default))) ?_
    refine w_p (p_fieldAddr (j' := 0) rfl fo24_0 rfl) ?_
    refine w_p (p_load (i := 0) (v := Vi f.size) rfl rfl sh3 rfl) ?_
    refine w_p (p_subb rfl rfl (by omega)) ?_
    refine w_call0 (v := .bool (Ref.between (f.set.getD k default) (0 : Int) (f.size - 1))) rfl (between_ok (f.set.getD k default) (0 : Int) (f.size - 1)) hf37 (fun _ _ => trivial) rfl ?_
    refine w_p (p_not (b := (Ref.between (f.set.getD k default) (0 : Int) (f.size - 1))) rfl) ?_
    refine w_nil (q_then ?_)
    refine c_cond rfl (fun hc7 => ?_) (fun hc7 => ?_)
    ·simp only [Bool.not_eq_true'] at hc7
     have hbt := hc7
     refine c_seq (c_region ?_)
     refine o_as rfl rfl ?_
     refine o_nil (q_then (c_ret ?_))
     refine q_then_ret (q_block_ret (q_then_ret (q_then_ret (q_block_ret (q_then_ret ?_)))))
     have hr0 : (3 : Int) = (Bl.check f) := by
      first | exact Bl.chk1 (Bl.rg0 hb1) | exact Bl.chk2 hb2 (by omega) | exact Bl.chk3 hb2 (by omega) (Bl.rc_bad hI (by omega) (Bl.bt0 hbt)) | exact Bl.chk3 hb2 (by omega) (Bl.rc_low hI (by omega) (Bl.bt1 hbt) (by assumption)) | exact Bl.chk3 hb2 (by omega) (hI.done (by omega))
     refine q_end0 (v := Vi 3) (rt1 rfl (r_tmp rfl)) (i := 1) rfl ?_
     exact (by have hcc := congrArg (fun (y0 : Int) => (.int .i64 y0 : Value)) hr0; exact hcc)
    ·simp only [Bool.not_eq_false'] at hc7
     have hbt := hc7
     refine c_skip (q_then (c_seq ?_))
     refine c_draw hmix (by kernel_rfl) ?_
     refine w_mv rfl rfl ?_
     refine w_p (p_gt rfl rfl) ?_
     refine w_mv rfl rfl ?_
     refine w_and (p := 52) 13 (decide ((f.set.getD k default) ≤ (f.set.getD (((k : Int) - 1).toNat) default))) ?_ ?_ ?_
     ·intro hb8 hk
      simp only [decide_eq_true_eq] at hb8
      refine w_unguard 39 rfl rfl ?_
      refine w_p (p_fieldAddr (j' := 2) rfl fo24_2 rfl) ?_
      refine w_unguard 39 rfl rfl ?_
      refine w_p (p_load (i := 0) (v := .slice af_0 f.set.length cf_0) rfl rfl sh22 rfl) ?_
      refine w_unguard 39 rfl rfl ?_
      refine w_mv rfl rfl ?_
      refine w_unguard 39 rfl rfl ?_
      refine w_p (p_indexAddr (L := f.set) (T := tInt) (i := (k : Int)) rfl rfl (rd_base (i := 1) rfl hf_0) Try.underlying22 sz3 (by omega) (by omega)) ?_
      refine w_unguard 39 rfl rfl ?_
      refine w_p (p_loadE1 (i := k) (T := tInt) (L := f.set) (v := Vi (f.set.getD k default)) rfl (rd_base (i := 1) rfl hf_0) (by first | assumption | omega) sh3 (congrArg tInt.enc (getd_at (by first | assumption | omega) default))) ?_
      refine w_unguard 39 rfl rfl ?_
      refine w_p (p_fieldAddr (j' := 2) rfl fo24_2 rfl) ?_
      refine w_unguard 39 rfl rfl ?_
      refine w_p (p_load (i := 0) (v := .slice af_0 f.set.length cf_0) rfl rfl sh22 rfl) ?_
      refine w_unguard 39 rfl rfl ?_
      refine w_mv rfl rfl ?_
      refine w_unguard 39 rfl rfl ?_
      refine w_p (p_subb rfl rfl (by omega)) ?_
      refine w_unguard 39 rfl rfl ?_
      refine w_p (p_indexAddr (L := f.set) (T := tInt) (i := ((k : Int) - 1)) rfl rfl (rd_base (i := 1) rfl hf_0) Try.underlying22 sz3 (by omega) (by omega)) ?_
      refine w_unguard 39 rfl rfl ?_
      refine w_p (p_loadE1 (i := ((k : Int) - 1).toNat) (T := tInt) (L := f.set) (v := Vi (f.set.getD (((k : Int) - 1).toNat) default)) rfl (rd_base (i := 1) rfl hf_0) (by first | assumption | omega) sh3 (congrArg tInt.enc (getd_at (by first | assumption | omega) default))) ?_
      refine w_unguard 39 rfl rfl ?_
      refine w_p (p_le rfl rfl) ?_
      refine w_pt rfl rfl rfl ?_
      exact w_sub (sr (Sub.skip rfl (Sub.skip rfl (Sub.skip rfl (Sub.skip rfl (Sub.skip rfl (Sub.skip rfl (Sub.skip rfl (Sub.skip rfl (Sub.skip rfl (Sub.skip rfl (Sub.skip rfl (Sub.skip rfl (Sub.skip rfl (Sub.skip rfl (Sub.refl _)))))))))))))))) hk
     ·intro hb8 hk
      refine w_guard_no rfl 39 rfl rfl rfl rfl rfl ?_
      refine w_guard_no rfl 39 rfl rfl rfl rfl rfl ?_
      refine w_guard_no rfl 39 rfl rfl rfl rfl rfl ?_
      refine w_guard_no rfl 39 rfl rfl rfl rfl rfl ?_
      refine w_guard_no rfl 39 rfl rfl rfl rfl rfl ?_
      refine w_guard_no rfl 39 rfl rfl rfl rfl rfl ?_
      refine w_guard_no rfl 39 rfl rfl rfl rfl rfl ?_
      refine w_guard_no rfl 39 rfl rfl rfl rfl rfl ?_
      refine w_guard_no rfl 39 rfl rfl rfl rfl rfl ?_
      refine w_guard_no rfl 39 rfl rfl rfl rfl rfl ?_
      refine w_guard_no rfl 39 rfl rfl rfl rfl rfl ?_
      refine w_guard_no rfl 39 rfl rfl rfl rfl rfl ?_
      refine w_pf rfl rfl rfl ?_
      exact w_sub (sr (Sub.skip rfl (Sub.skip rfl (Sub.skip rfl (Sub.skip rfl (Sub.skip rfl (Sub.skip rfl (Sub.skip rfl (Sub.skip rfl (Sub.skip rfl (Sub.skip rfl (Sub.skip rfl (Sub.skip rfl (Sub.skip rfl (Sub.skip rfl (Sub.refl _)))))))))))))))) hk
     refine w_nil (q_then ?_)
     refine c_cond rfl (fun hc9 => ?_) (fun hc9 => ?_)
     ·simp only [Bool.and_eq_true, decide_eq_true_eq] at hc9
      refine c_seq (c_region ?_)
      refine o_as rfl rfl ?_
      refine o_nil (q_then (c_ret ?_))
      refine q_block_ret (q_then_ret (q_then_ret (q_block_ret (q_then_ret ?_))))
      have hr0 : (4 : Int) = (Bl.check f) := by
       first | exact Bl.chk1 (Bl.rg0 hb1) | exact Bl.chk2 hb2 (by omega) | exact Bl.chk3 hb2 (by omega) (Bl.rc_bad hI (by omega) (Bl.bt0 hbt)) | exact Bl.chk3 hb2 (by omega) (Bl.rc_low hI (by omega) (Bl.bt1 hbt) (by assumption)) | exact Bl.chk3 hb2 (by omega) (hI.done (by omega))
      refine q_end0 (v := Vi 4) (rt1 rfl (r_tmp rfl)) (i := 1) rfl ?_
      exact (by have hcc := congrArg (fun (y0 : Int) => (.int .i64 y0 : Value)) hr0; exact hcc)
     ·simp only [Bool.and_eq_false_iff, decide_eq_false_iff_not, Int.not_lt, Int.not_le] at hc9
      refine c_skip ?_
      refine q_block_normal (q_then ?_)
      refine c_region ?_
      refine o_mv rfl rfl ?_
      refine o_p (p_addb rfl rfl (by omega)) ?_
      refine o_as rfl rfl ?_
      refine o_nil ?_
      refine q_round hK5 (k + 1) ?_ ?_ ?_ ?_
      ·clear hK5
       exact Bl.rc_next hI (by omega) (Bl.bt1 hbt) (by omega)
      ·(try dsimp only); omega
      ·exact sr (sr (Sub.nil _))
      ·exact pk [0, 1]
   ·simp only [decide_eq_false_iff_not, Int.not_lt] at hc6
    refine c_exit ?_
    refine q_then_exit (q_then_exit (q_block_exit (q_then ?_)))
    refine c_seq (c_region ?_)
    refine o_as rfl rfl ?_
    refine o_nil (q_then (c_ret ?_))
    have hr0 : (0 : Int) = (Bl.check f) := by
     first | exact Bl.chk1 (Bl.rg0 hb1) | exact Bl.chk2 hb2 (by omega) | exact Bl.chk3 hb2 (by omega) (Bl.rc_bad hI (by omega) (Bl.bt0 hbt)) | exact Bl.chk3 hb2 (by omega) (Bl.rc_low hI (by omega) (Bl.bt1 hbt) (by assumption)) | exact Bl.chk3 hb2 (by omega) (hI.done (by omega))
    refine q_end0 (v := Vi 0) (rt1 rfl (r_tmp rfl)) (i := 1) rfl ?_
    exact (by have hcc := congrArg (fun (y0 : Int) => (.int .i64 y0 : Value)) hr0; exact hcc)

set_option maxHeartbeats 8000000 in
set_option maxRecDepth 100000 in
theorem isPlace_ok (f : DFilter) (af_0 : Option Addr) (cf_0 : Nat) (s : ByteArray) (at_ : Int) (hy1 : Bl.Ok f ∧ s.size ≤ 40) : Fn0 Try.prog 38 [.agg #[Vi f.size, Vi f.hashes, .slice af_0 f.set.length cf_0], .string s, Vi at_] (fun w => Rd tInt w af_0 cf_0 f.set) (.bool (decide (at_ ∈ Bl.places f s))) := by
 refine fn0 (nt := 25) (F0 := [(0, .agg #[Vi f.size, Vi f.hashes, .slice af_0 f.set.length cf_0]), (1, .string s), (2, Vi at_)]) Try.func38 rfl Try.ntmps38 rfl rfl (fun w0 hpre => ?_)
 have hf_0 := hpre
 have hlhf_0 := hf_0.2.1
 have hha := hy1.1.hashes
 have hsz := hy1.1.size
 refine c_seq (c_region ?_)
 refine o_box (v := .agg #[Vi f.size, Vi f.hashes, .slice af_0 f.set.length cf_0]) rfl rfl (fun B1 => ?_)
 refine o_as rfl rfl ?_
 refine o_nil (q_then (c_seq (c_seq (c_region ?_))))
 refine o_as rfl rfl ?_
 refine o_nil (q_then (c_block ?_))
 refine c_loop (St := Nat)
  (fun i => [(1, .string s), (2, Vi at_), (3, .pointer (some ⟨B1, 0, none⟩)), (7, Vi (i : Int))])
  (fun i => [box B1 [Vi f.size, Vi f.hashes, .slice af_0 f.set.length cf_0] 24, base w0])
  (fun i => i ≤ f.hashes.toNat ∧ ∀ j : Nat, j < i → Bl.place f s (j : Int) ≠ at_)
  (fun i => f.hashes.toNat - i)
  0 ?_ (sr (sr (sr (sr (Sub.nil _))))) (fun _ hw => hw) ?_
 ·exact ⟨Nat.zero_le _, fun j h => absurd h (Nat.not_lt_zero j)⟩
 rintro i hI K hK2
 show SC _ _ Try.prog 25 w0 _ _ [(1, .string s), (2, Vi at_), (3, .pointer (some ⟨B1, 0, none⟩)), (7, Vi (i : Int))] [box B1 [Vi f.size, Vi f.hashes, .slice af_0 f.set.length cf_0] 24, base w0]
 refine c_seq (c_seq (c_region ?_))
 refine o_mv rfl rfl ?_
 refine o_p (p_fieldAddr (j' := 1) rfl fo24_1 rfl) ?_
 refine o_p (p_load (i := 0) (v := Vi f.hashes) rfl rfl sh3 rfl) ?_
 refine o_p (p_lt rfl rfl) ?_
 refine o_nil (q_then ?_)
 refine c_cond rfl (fun hc3 => ?_) (fun hc3 => ?_)
 ·simp only [decide_eq_true_eq] at hc3
  refine c_skip (q_then (c_seq (c_block (c_seq ?_))))
  refine c_draw hmix (by kernel_rfl) ?_
  refine w_mv rfl rfl ?_
  refine w_call0 (v := .int .u64 ((Hash.raw s).toNat : Int)) rfl (mixSum_ok s) hf63 (fun w hw => (by first | assumption | omega | decide | (rw [ByteArray.size_append]; omega) | simp)) rfl ?_
  refine w_mv rfl rfl ?_
  refine w_p (pu_conv (z := (i : Int)) rfl Try.underlying3 Try.underlying81) ?_
  refine w_p (pu_xor (p := (Hash.raw s)) (q := (toU (i : Int))) rfl rfl) ?_
  refine w_call0 (v := .int .u64 ((Hash.mix ((Hash.raw s) ^^^ (toU (i : Int)))).toNat : Int)) rfl (mixOf_ok ((Hash.raw s) ^^^ (toU (i : Int)))) hf62 (fun _ _ => trivial) rfl ?_
  refine w_p (p_fieldAddr (j' := 0) rfl fo24_0 rfl) ?_
  refine w_p (p_load (i := 0) (v := Vi f.size) rfl rfl sh3 rfl) ?_
  refine w_call0 (v := Vi (Hash.rawFold (Hash.mix ((Hash.raw s) ^^^ (toU (i : Int)))) f.size)) rfl (mixFold_ok (Hash.mix ((Hash.raw s) ^^^ (toU (i : Int)))) f.size) hf61 (fun _ _ => trivial) rfl ?_
  refine w_mv rfl rfl ?_
  refine w_p (p_eq rfl rfl) ?_
  refine w_nil (q_then ?_)
  refine c_cond rfl (fun hc4 => ?_) (fun hc4 => ?_)
  ·simp only [beq_iff_eq] at hc4
   refine c_seq (c_region ?_)
   refine o_as rfl rfl ?_
   refine o_nil (q_then (c_ret ?_))
   refine q_block_ret (q_then_ret (q_then_ret (q_block_ret (q_then_ret ?_))))
   have hr0 : (true : Bool) = (decide (at_ ∈ Bl.places f s)) := by
    first | exact Bl.isp_t hy1.2 (by omega) (by assumption) | exact Bl.isp_f hI.2 (by omega)
   refine q_end0 (v := .bool true) (rt1 rfl (r_tmp rfl)) (i := 1) rfl ?_
   exact (by have hcc := congrArg (fun (y0 : Bool) => (.bool y0 : Value)) hr0; exact hcc)
  ·simp only [beq_eq_false_iff_ne, ne_eq] at hc4
   refine c_skip ?_
   refine q_block_normal (q_then ?_)
   refine c_region ?_
   refine o_mv rfl rfl ?_
   refine o_p (p_addb rfl rfl (by omega)) ?_
   refine o_as rfl rfl ?_
   refine o_nil ?_
   refine q_round hK2 (i + 1) ?_ ?_ ?_ ?_
   ·clear hK2
    exact ⟨by omega, Bl.isp_n hy1.2 hI.2 (by assumption)⟩
   ·(try dsimp only); omega
   ·exact sr (sr (sr (sr (Sub.nil _))))
   ·exact pk [0, 1]
 ·simp only [decide_eq_false_iff_not, Int.not_lt] at hc3
  refine c_exit ?_
  refine q_then_exit (q_then_exit (q_block_exit (q_then ?_)))
  refine c_seq (c_region ?_)
  refine o_as rfl rfl ?_
  refine o_nil (q_then (c_ret ?_))
  have hr0 : (false : Bool) = (decide (at_ ∈ Bl.places f s)) := by
   first | exact Bl.isp_t hy1.2 (by omega) (by assumption) | exact Bl.isp_f hI.2 (by omega)
  refine q_end0 (v := .bool false) (rt1 rfl (r_tmp rfl)) (i := 1) rfl ?_
  exact (by have hcc := congrArg (fun (y0 : Bool) => (.bool y0 : Value)) hr0; exact hcc)

set_option maxHeartbeats 8000000 in
set_option maxRecDepth 100000 in
theorem bloomPlaces_ok (f : DFilter) (af_0 : Option Addr) (cf_0 : Nat) (s : ByteArray) (hy1 : Bl.Ok f ∧ s.size ≤ 40) : FnM Try.prog 16 [.agg #[Vi f.size, Vi f.hashes, .slice af_0 f.set.length cf_0], .string s] (fun w => Rd tInt w af_0 cf_0 f.set) (Option Addr × Nat) (fun p => .slice p.1 (Bl.places f s).length p.2) (fun p S w => SlO tInt S w p.1 p.2 (Bl.places f s)) := by
 refine fnM (nt := 22) (F0 := [(0, .agg #[Vi f.size, Vi f.hashes, .slice af_0 f.set.length cf_0]), (1, .string s)]) Try.func16 rfl Try.ntmps16 rfl rfl (fun w0 hpre => ?_)
 have hf_0 := hpre
 have hlhf_0 := hf_0.2.1
 have hsz := hy1.1.size
 refine c_seq (c_region ?_)
 refine o_box (v := .agg #[Vi f.size, Vi f.hashes, .slice af_0 f.set.length cf_0]) rfl rfl (fun B1 => ?_)
 refine o_as rfl rfl ?_
 refine o_nil (q_then (c_seq (c_region ?_)))
 refine o_as rfl rfl ?_
 refine o_nil (q_then (c_seq (c_seq (c_region ?_))))
 refine o_as rfl rfl ?_
 refine o_nil (q_then (c_block ?_))
 refine c_ownNil tInt ?_
 refine c_loop (St := List Int × Option Addr × Nat × (Nat → Prop) × Nat)
  (fun ⟨out, aout, cout, Sout, k⟩ => [(1, .string s), (2, .pointer (some ⟨B1, 0, none⟩)), (5, .slice aout out.length cout), (6, Vi (k : Int))])
  (fun ⟨out, aout, cout, Sout, k⟩ => [own tInt Sout aout cout out, box B1 [Vi f.size, Vi f.hashes, .slice af_0 f.set.length cf_0] 24, base w0])
  (fun ⟨out, aout, cout, Sout, k⟩ => k ≤ f.size.toNat ∧ out = Bl.upto k (fun x => decide (x ∈ Bl.places f s)))
  (fun ⟨out, aout, cout, Sout, k⟩ => f.size.toNat - k)
  ([], none, 0, (fun _ => False), 0) ?_ (sr (sr (sr (sr (Sub.nil _))))) (fun _ hw => hw) ?_
 ·exact ⟨Nat.zero_le _, rfl⟩
 rintro ⟨out, aout, cout, Sout, k⟩ hI K hK3
 have hol : out.length ≤ k := by rw [hI.2]; exact Bl.upto_len _ _
 show SC _ _ Try.prog 22 w0 _ _ [(1, .string s), (2, .pointer (some ⟨B1, 0, none⟩)), (5, .slice aout out.length cout), (6, Vi (k : Int))] [own tInt Sout aout cout out, box B1 [Vi f.size, Vi f.hashes, .slice af_0 f.set.length cf_0] 24, base w0]
 refine c_seq (c_seq (c_region ?_))
 refine o_mv rfl rfl ?_
 refine o_p (p_fieldAddr (j' := 0) rfl fo24_0 rfl) ?_
 refine o_p (p_load (i := 1) (v := Vi f.size) rfl rfl sh3 rfl) ?_
 refine o_p (p_lt rfl rfl) ?_
 refine o_nil (q_then ?_)
 refine c_cond rfl (fun hc4 => ?_) (fun hc4 => ?_)
 ·simp only [decide_eq_true_eq] at hc4
  refine c_skip (q_then (c_seq (c_block (c_seq (c_region ?_)))))
  refine o_p (p_load_agg (i := 1) (vs := [Vi f.size, Vi f.hashes, .slice af_0 f.set.length cf_0]) rfl rfl sh24 rfl rfl) ?_
  refine o_mv rfl rfl ?_
  refine o_mv rfl rfl ?_
  refine o_call0 (v := .bool (decide ((k : Int) ∈ Bl.places f s))) rfl (isPlace_ok f af_0 cf_0 s (k : Int) (by first | assumption | exact ⟨Bl.check_ok.1 (by assumption), by omega⟩ | exact ⟨hoa, by omega⟩)) hf38 (fun w hw => (rd_base (i := 2) rfl hf_0) w hw) rfl ?_
  refine o_nil (q_then ?_)
  refine c_cond rfl (fun hc5 => ?_) (fun hc5 => ?_)
  ·simp only [decide_eq_true_eq] at hc5
   have hp := hc5
   refine c_region ?_
   refine o_mv rfl rfl ?_
   refine o_mv rfl rfl ?_
   refine o_buildSlice (m := 1) (T := tInt) (L := [(k : Int)]) (vs := [Vi (k : Int)]) rfl rfl rfl rfl Try.underlying22 sz3 (by decide) ze3 rfl (by decide) rfl (fun S6 a7 => ?_)
   refine o_append (i := 1) (L := out) (M := [(k : Int)]) (T := tInt) rfl rfl rfl (rd_own (i := 0) rfl) Try.underlying22 Try.underlying22 (by intro k h; cases h) el3 (by intro z; simp [tInt, one1]) (by decide) (by first | omega | (simp only [List.length_cons, List.length_nil]; omega) | (simp only [List.length_append, List.length_cons, List.length_nil, List.length_take, List.length_drop]; omega)) rfl (fun a9 c10 S11 => ?_)
   refine o_as rfl rfl ?_
   refine o_nil ?_
   refine q_block_normal (q_then ?_)
   refine c_region ?_
   refine o_mv rfl rfl ?_
   refine o_p (p_addb rfl rfl (by omega)) ?_
   refine o_as rfl rfl ?_
   refine o_nil ?_
   refine q_round hK3 ((out ++ [(k : Int)]), a9, c10, S11, k + 1) ?_ ?_ ?_ ?_
   ·clear hK3
    first | exact ⟨by omega, Bl.up_t hI.2 (by simpa using hp)⟩ | exact ⟨by omega, Bl.up_f hI.2 (by simpa using hp)⟩
   ·(try dsimp only); omega
   ·exact sr (sr (sr (sr (Sub.nil _))))
   ·exact pk [1, 2, 3]
  ·simp only [decide_eq_false_iff_not] at hc5
   have hp := hc5
   refine c_skip ?_
   refine q_block_normal (q_then ?_)
   refine c_region ?_
   refine o_mv rfl rfl ?_
   refine o_p (p_addb rfl rfl (by omega)) ?_
   refine o_as rfl rfl ?_
   refine o_nil ?_
   refine q_round hK3 (out, aout, cout, Sout, k + 1) ?_ ?_ ?_ ?_
   ·clear hK3
    first | exact ⟨by omega, Bl.up_t hI.2 (by simpa using hp)⟩ | exact ⟨by omega, Bl.up_f hI.2 (by simpa using hp)⟩
   ·(try dsimp only); omega
   ·exact sr (sr (sr (sr (Sub.nil _))))
   ·exact pk [0, 1, 2]
 ·simp only [decide_eq_false_iff_not, Int.not_lt] at hc4
  refine c_exit ?_
  refine q_then_exit (q_then_exit (q_block_exit (q_then ?_)))
  refine c_seq (c_region ?_)
  refine o_mv rfl rfl ?_
  refine o_as rfl rfl ?_
  refine o_nil (q_then (c_ret ?_))
  have hr0 : (out : List Int) = (Bl.places f s) := by
   exact hI.2.trans (Bl.places_upto hy1.1 s (by omega))
  refine q_endM (p := (aout, cout)) Sout (rt1 rfl (r_tmp rfl)) (i := 2) rfl ?_ ?_ ?_
  ·exact (by have hcc := congrArg (fun (y0 : List Int) => (.slice aout y0.length cout : Value)) hr0; exact hcc)
  ·exact fun w hw => hw.above (i := 2) (j := 0) (by decide) rfl rfl
  ·intro w hw; exact Eq.mp (congrArg (fun y => SlO tInt _ w aout cout y) hr0) ((hw.at (i := 0) rfl).here)

set_option maxHeartbeats 8000000 in
set_option maxRecDepth 100000 in
theorem setBoth_ok (a : List Int) (aa : Option Addr) (ca : Nat) (b : List Int) (ab : Option Addr) (cb : Nat) (size : Int) (hy1 : 1 ≤ size ∧ size ≤ 1024) : FnM Try.prog 17 [.slice aa a.length ca, .slice ab b.length cb, Vi size] (fun w => Rd tInt w aa ca a ∧ Rd tInt w ab cb b) (Option Addr × Nat) (fun p => .slice p.1 (Bl.both a b size).length p.2) (fun p S w => SlO tInt S w p.1 p.2 (Bl.both a b size)) := by
 refine fnM (nt := 27) (F0 := [(0, .slice aa a.length ca), (1, .slice ab b.length cb), (2, Vi size)]) Try.func17 rfl Try.ntmps17 rfl rfl (fun w0 hpre => ?_)
 obtain ⟨ha, hb⟩ := hpre
 have hlha := ha.2.1
 have hlhb := hb.2.1
 refine c_seq (c_region ?_)
 refine o_as rfl rfl ?_
 refine o_nil (q_then (c_seq (c_region ?_)))
 refine o_as rfl rfl ?_
 refine o_nil (q_then (c_seq (c_seq (c_region ?_))))
 refine o_as rfl rfl ?_
 refine o_nil (q_then (c_block ?_))
 refine c_ownNil tInt ?_
 refine c_loop (St := List Int × Option Addr × Nat × (Nat → Prop) × Nat)
  (fun ⟨out, aout, cout, Sout, k⟩ => [(0, .slice aa a.length ca), (1, .slice ab b.length cb), (2, Vi size), (7, .slice aout out.length cout), (8, Vi (k : Int))])
  (fun ⟨out, aout, cout, Sout, k⟩ => [own tInt Sout aout cout out, base w0])
  (fun ⟨out, aout, cout, Sout, k⟩ => k ≤ size.toNat ∧ out = Bl.upto k (fun x => Ref.hasInt a x || Ref.hasInt b x))
  (fun ⟨out, aout, cout, Sout, k⟩ => size.toNat - k)
  ([], none, 0, (fun _ => False), 0) ?_ (sr (sr (sr (sr (sr (Sub.nil _)))))) (fun _ hw => hw) ?_
 ·exact ⟨Nat.zero_le _, rfl⟩
 rintro ⟨out, aout, cout, Sout, k⟩ hI K hK2
 have hol : out.length ≤ k := by rw [hI.2]; exact Bl.upto_len _ _
 show SC _ _ Try.prog 27 w0 _ _ [(0, .slice aa a.length ca), (1, .slice ab b.length cb), (2, Vi size), (7, .slice aout out.length cout), (8, Vi (k : Int))] [own tInt Sout aout cout out, base w0]
 refine c_seq (c_seq (c_region ?_))
 refine o_mv rfl rfl ?_
 refine o_mv rfl rfl ?_
 refine o_p (p_lt rfl rfl) ?_
 refine o_nil (q_then ?_)
 refine c_cond rfl (fun hc3 => ?_) (fun hc3 => ?_)
 ·simp only [decide_eq_true_eq] at hc3
  refine c_skip (q_then (c_seq (c_block (c_seq (c_region ?_)))))
  refine o_mv rfl rfl ?_
  refine o_mv rfl rfl ?_
  refine o_call0 (v := .bool (Ref.hasInt a (k : Int))) rfl (hasInt_ok a aa ca (k : Int)) hf26 (fun w hw => (rd_base (i := 1) rfl ha) w hw) rfl ?_
  refine o_mv rfl rfl ?_
  refine o_or (p := 21) 4 (Ref.hasInt b (k : Int)) ?_ ?_ ?_
  ·intro hb4 hk
   skip
   refine o_unguard 17 rfl rfl ?_
   refine o_mv rfl rfl ?_
   refine o_unguard 17 rfl rfl ?_
   refine o_mv rfl rfl ?_
   refine o_unguard 17 rfl rfl ?_
   refine o_call0 (v := .bool (Ref.hasInt b (k : Int))) rfl (hasInt_ok b ab cb (k : Int)) hf26 (fun w hw => (rd_base (i := 1) rfl hb) w hw) rfl ?_
   refine o_pf rfl rfl rfl ?_
   exact o_sub (sr (Sub.skip rfl (Sub.skip rfl (Sub.skip rfl (Sub.skip rfl (Sub.skip rfl (Sub.refl _))))))) hk
  ·intro hb4 hk
   refine o_guard_no rfl 17 rfl rfl rfl rfl rfl ?_
   refine o_guard_no rfl 17 rfl rfl rfl rfl rfl ?_
   refine o_guard_no rfl 17 rfl rfl rfl rfl rfl ?_
   refine o_pt rfl rfl rfl ?_
   exact o_sub (sr (Sub.skip rfl (Sub.skip rfl (Sub.skip rfl (Sub.skip rfl (Sub.skip rfl (Sub.refl _))))))) hk
  refine o_nil (q_then ?_)
  refine c_cond rfl (fun hc5 => ?_) (fun hc5 => ?_)
  ·simp only [Bool.or_eq_true] at hc5
   have hp := hc5
   refine c_region ?_
   refine o_mv rfl rfl ?_
   refine o_mv rfl rfl ?_
   refine o_buildSlice (m := 1) (T := tInt) (L := [(k : Int)]) (vs := [Vi (k : Int)]) rfl rfl rfl rfl Try.underlying22 sz3 (by decide) ze3 rfl (by decide) rfl (fun S6 a7 => ?_)
   refine o_append (i := 1) (L := out) (M := [(k : Int)]) (T := tInt) rfl rfl rfl (rd_own (i := 0) rfl) Try.underlying22 Try.underlying22 (by intro k h; cases h) el3 (by intro z; simp [tInt, one1]) (by decide) (by first | omega | (simp only [List.length_cons, List.length_nil]; omega) | (simp only [List.length_append, List.length_cons, List.length_nil, List.length_take, List.length_drop]; omega)) rfl (fun a9 c10 S11 => ?_)
   refine o_as rfl rfl ?_
   refine o_nil ?_
   refine q_block_normal (q_then ?_)
   refine c_region ?_
   refine o_mv rfl rfl ?_
   refine o_p (p_addb rfl rfl (by omega)) ?_
   refine o_as rfl rfl ?_
   refine o_nil ?_
   refine q_round hK2 ((out ++ [(k : Int)]), a9, c10, S11, k + 1) ?_ ?_ ?_ ?_
   ·clear hK2
    first | exact ⟨by omega, Bl.up_t hI.2 (by simpa using hp)⟩ | exact ⟨by omega, Bl.up_f hI.2 (by simpa using hp)⟩
   ·(try dsimp only); omega
   ·exact sr (sr (sr (sr (sr (Sub.nil _)))))
   ·exact pk [1, 2]
  ·simp only [Bool.or_eq_false_iff] at hc5
   have hp := hc5
   refine c_skip ?_
   refine q_block_normal (q_then ?_)
   refine c_region ?_
   refine o_mv rfl rfl ?_
   refine o_p (p_addb rfl rfl (by omega)) ?_
   refine o_as rfl rfl ?_
   refine o_nil ?_
   refine q_round hK2 (out, aout, cout, Sout, k + 1) ?_ ?_ ?_ ?_
   ·clear hK2
    first | exact ⟨by omega, Bl.up_t hI.2 (by simpa using hp)⟩ | exact ⟨by omega, Bl.up_f hI.2 (by simpa using hp)⟩
   ·(try dsimp only); omega
   ·exact sr (sr (sr (sr (sr (Sub.nil _)))))
   ·exact pk [0, 1]
 ·simp only [decide_eq_false_iff_not, Int.not_lt] at hc3
  refine c_exit ?_
  refine q_then_exit (q_then_exit (q_block_exit (q_then ?_)))
  refine c_seq (c_region ?_)
  refine o_mv rfl rfl ?_
  refine o_as rfl rfl ?_
  refine o_nil (q_then (c_ret ?_))
  have hr0 : (out : List Int) = (Bl.both a b size) := by
   (rw [hI.2, show k = size.toNat by omega]; rfl)
  refine q_endM (p := (aout, cout)) Sout (rt1 rfl (r_tmp rfl)) (i := 1) rfl ?_ ?_ ?_
  ·exact (by have hcc := congrArg (fun (y0 : List Int) => (.slice aout y0.length cout : Value)) hr0; exact hcc)
  ·exact fun w hw => hw.above (i := 1) (j := 0) (by decide) rfl rfl
  ·intro w hw; exact Eq.mp (congrArg (fun y => SlO tInt _ w aout cout y) hr0) ((hw.at (i := 0) rfl).here)

set_option maxHeartbeats 8000000 in
set_option maxRecDepth 100000 in
theorem bloomHalf_ok (f : DFilter) (af_0 : Option Addr) (cf_0 : Nat) (hy1 : 1 ≤ f.size ∧ f.size ≤ 1024) : FnM Try.prog 19 [.agg #[Vi f.size, Vi f.hashes, .slice af_0 f.set.length cf_0]] (fun w => Rd tInt w af_0 cf_0 f.set) (Option Addr × Nat) (fun p => .slice p.1 (Bl.half f).length p.2) (fun p S w => SlO tInt S w p.1 p.2 (Bl.half f)) := by
 refine fnM (nt := 30) (F0 := [(0, .agg #[Vi f.size, Vi f.hashes, .slice af_0 f.set.length cf_0])]) Try.func19 rfl Try.ntmps19 rfl rfl (fun w0 hpre => ?_)
 have hf_0 := hpre
 have hlhf_0 := hf_0.2.1
 have htd : f.size.tdiv 2 = f.size / 2 := Int.tdiv_eq_ediv_of_nonneg (by omega)
 refine c_seq (c_region ?_)
 refine o_box (v := .agg #[Vi f.size, Vi f.hashes, .slice af_0 f.set.length cf_0]) rfl rfl (fun B1 => ?_)
 refine o_as rfl rfl ?_
 refine o_nil (q_then (c_seq (c_region ?_)))
 refine o_as rfl rfl ?_
 refine o_nil (q_then (c_seq (c_seq (c_region ?_))))
 refine o_as rfl rfl ?_
 refine o_nil (q_then (c_block ?_))
 refine c_ownNil tInt ?_
 refine c_loop (St := List Int × Option Addr × Nat × (Nat → Prop) × Nat)
  (fun ⟨out, aout, cout, Sout, k⟩ => [(1, .pointer (some ⟨B1, 0, none⟩)), (3, .slice aout out.length cout), (4, Vi (k : Int))])
  (fun ⟨out, aout, cout, Sout, k⟩ => [own tInt Sout aout cout out, box B1 [Vi f.size, Vi f.hashes, .slice af_0 f.set.length cf_0] 24, base w0])
  (fun ⟨out, aout, cout, Sout, k⟩ => k ≤ (f.size.tdiv 2).toNat ∧ out = Bl.upto k (fun x => Ref.hasInt f.set (2 * x) || Ref.hasInt f.set (2 * x + 1)))
  (fun ⟨out, aout, cout, Sout, k⟩ => (f.size.tdiv 2).toNat - k)
  ([], none, 0, (fun _ => False), 0) ?_ (sr (sr (sr (Sub.nil _)))) (fun _ hw => hw) ?_
 ·exact ⟨Nat.zero_le _, rfl⟩
 rintro ⟨out, aout, cout, Sout, k⟩ hI K hK3
 have hol : out.length ≤ k := by rw [hI.2]; exact Bl.upto_len _ _
 show SC _ _ Try.prog 30 w0 _ _ [(1, .pointer (some ⟨B1, 0, none⟩)), (3, .slice aout out.length cout), (4, Vi (k : Int))] [own tInt Sout aout cout out, box B1 [Vi f.size, Vi f.hashes, .slice af_0 f.set.length cf_0] 24, base w0]
 refine c_seq (c_seq (c_region ?_))
 refine o_mv rfl rfl ?_
 refine o_p (p_fieldAddr (j' := 0) rfl fo24_0 rfl) ?_
 refine o_p (p_load (i := 1) (v := Vi f.size) rfl rfl sh3 rfl) ?_
 refine o_p (p_quob (p := f.size) (q := 2) rfl rfl (by decide) (by omega)) ?_
 refine o_p (p_lt rfl rfl) ?_
 refine o_nil (q_then ?_)
 refine c_cond rfl (fun hc4 => ?_) (fun hc4 => ?_)
 ·simp only [decide_eq_true_eq] at hc4
  refine c_skip (q_then (c_seq (c_block (c_seq (c_region ?_)))))
  refine o_p (p_fieldAddr (j' := 2) rfl fo24_2 rfl) ?_
  refine o_p (p_load (i := 1) (v := .slice af_0 f.set.length cf_0) rfl rfl sh22 rfl) ?_
  refine o_mv rfl rfl ?_
  refine o_p (p_mulb (p := 2) (q := (k : Int)) rfl rfl (by omega)) ?_
  refine o_call0 (v := .bool (Ref.hasInt f.set (2 * (k : Int)))) rfl (hasInt_ok f.set af_0 cf_0 (2 * (k : Int))) hf26 (fun w hw => (rd_base (i := 2) rfl hf_0) w hw) rfl ?_
  refine o_mv rfl rfl ?_
  refine o_or (p := 24) 7 (Ref.hasInt f.set ((2 * (k : Int)) + 1)) ?_ ?_ ?_
  ·intro hb5 hk
   skip
   refine o_unguard 17 rfl rfl ?_
   refine o_p (p_fieldAddr (j' := 2) rfl fo24_2 rfl) ?_
   refine o_unguard 17 rfl rfl ?_
   refine o_p (p_load (i := 1) (v := .slice af_0 f.set.length cf_0) rfl rfl sh22 rfl) ?_
   refine o_unguard 17 rfl rfl ?_
   refine o_mv rfl rfl ?_
   refine o_unguard 17 rfl rfl ?_
   refine o_p (p_mulb (p := 2) (q := (k : Int)) rfl rfl (by omega)) ?_
   refine o_unguard 17 rfl rfl ?_
   refine o_p (p_addb rfl rfl (by omega)) ?_
   refine o_unguard 17 rfl rfl ?_
   refine o_call0 (v := .bool (Ref.hasInt f.set ((2 * (k : Int)) + 1))) rfl (hasInt_ok f.set af_0 cf_0 ((2 * (k : Int)) + 1)) hf26 (fun w hw => (rd_base (i := 2) rfl hf_0) w hw) rfl ?_
   refine o_pf rfl rfl rfl ?_
   exact o_sub (sr (Sub.skip rfl (Sub.skip rfl (Sub.skip rfl (Sub.skip rfl (Sub.skip rfl (Sub.skip rfl (Sub.skip rfl (Sub.skip rfl (Sub.refl _)))))))))) hk
  ·intro hb5 hk
   refine o_guard_no rfl 17 rfl rfl rfl rfl rfl ?_
   refine o_guard_no rfl 17 rfl rfl rfl rfl rfl ?_
   refine o_guard_no rfl 17 rfl rfl rfl rfl rfl ?_
   refine o_guard_no rfl 17 rfl rfl rfl rfl rfl ?_
   refine o_guard_no rfl 17 rfl rfl rfl rfl rfl ?_
   refine o_guard_no rfl 17 rfl rfl rfl rfl rfl ?_
   refine o_pt rfl rfl rfl ?_
   exact o_sub (sr (Sub.skip rfl (Sub.skip rfl (Sub.skip rfl (Sub.skip rfl (Sub.skip rfl (Sub.skip rfl (Sub.skip rfl (Sub.skip rfl (Sub.refl _)))))))))) hk
  refine o_nil (q_then ?_)
  refine c_cond rfl (fun hc6 => ?_) (fun hc6 => ?_)
  ·simp only [Bool.or_eq_true] at hc6
   have hp := hc6
   refine c_region ?_
   refine o_mv rfl rfl ?_
   refine o_mv rfl rfl ?_
   refine o_buildSlice (m := 1) (T := tInt) (L := [(k : Int)]) (vs := [Vi (k : Int)]) rfl rfl rfl rfl Try.underlying22 sz3 (by decide) ze3 rfl (by decide) rfl (fun S7 a8 => ?_)
   refine o_append (i := 1) (L := out) (M := [(k : Int)]) (T := tInt) rfl rfl rfl (rd_own (i := 0) rfl) Try.underlying22 Try.underlying22 (by intro k h; cases h) el3 (by intro z; simp [tInt, one1]) (by decide) (by first | omega | (simp only [List.length_cons, List.length_nil]; omega) | (simp only [List.length_append, List.length_cons, List.length_nil, List.length_take, List.length_drop]; omega)) rfl (fun a10 c11 S12 => ?_)
   refine o_as rfl rfl ?_
   refine o_nil ?_
   refine q_block_normal (q_then ?_)
   refine c_region ?_
   refine o_mv rfl rfl ?_
   refine o_p (p_addb rfl rfl (by omega)) ?_
   refine o_as rfl rfl ?_
   refine o_nil ?_
   refine q_round hK3 ((out ++ [(k : Int)]), a10, c11, S12, k + 1) ?_ ?_ ?_ ?_
   ·clear hK3
    first | exact ⟨by omega, Bl.up_t hI.2 (by simpa using hp)⟩ | exact ⟨by omega, Bl.up_f hI.2 (by simpa using hp)⟩
   ·(try dsimp only); omega
   ·exact sr (sr (sr (Sub.nil _)))
   ·exact pk [1, 2, 3]
  ·simp only [Bool.or_eq_false_iff] at hc6
   have hp := hc6
   refine c_skip ?_
   refine q_block_normal (q_then ?_)
   refine c_region ?_
   refine o_mv rfl rfl ?_
   refine o_p (p_addb rfl rfl (by omega)) ?_
   refine o_as rfl rfl ?_
   refine o_nil ?_
   refine q_round hK3 (out, aout, cout, Sout, k + 1) ?_ ?_ ?_ ?_
   ·clear hK3
    first | exact ⟨by omega, Bl.up_t hI.2 (by simpa using hp)⟩ | exact ⟨by omega, Bl.up_f hI.2 (by simpa using hp)⟩
   ·(try dsimp only); omega
   ·exact sr (sr (sr (Sub.nil _)))
   ·exact pk [0, 1, 2]
 ·simp only [decide_eq_false_iff_not, Int.not_lt] at hc4
  refine c_exit ?_
  refine q_then_exit (q_then_exit (q_block_exit (q_then ?_)))
  refine c_seq (c_region ?_)
  refine o_mv rfl rfl ?_
  refine o_as rfl rfl ?_
  refine o_nil (q_then (c_ret ?_))
  have hr0 : (out : List Int) = (Bl.half f) := by
   (rw [hI.2, show k = (f.size.tdiv 2).toNat by omega]; rfl)
  refine q_endM (p := (aout, cout)) Sout (rt1 rfl (r_tmp rfl)) (i := 2) rfl ?_ ?_ ?_
  ·exact (by have hcc := congrArg (fun (y0 : List Int) => (.slice aout y0.length cout : Value)) hr0; exact hcc)
  ·exact fun w hw => hw.above (i := 2) (j := 0) (by decide) rfl rfl
  ·intro w hw; exact Eq.mp (congrArg (fun y => SlO tInt _ w aout cout y) hr0) ((hw.at (i := 0) rfl).here)

set_option maxHeartbeats 8000000 in
set_option maxRecDepth 100000 in
theorem sameFilter_ok (a : DFilter) (aa_0 : Option Addr) (ca_0 : Nat) (b : DFilter) (ab_0 : Option Addr) (cb_0 : Nat) : Fn0 Try.prog 22 [.agg #[Vi a.size, Vi a.hashes, .slice aa_0 a.set.length ca_0], .agg #[Vi b.size, Vi b.hashes, .slice ab_0 b.set.length cb_0]] (fun w => Rd tInt w aa_0 ca_0 a.set ∧ Rd tInt w ab_0 cb_0 b.set) (.bool (decide (a = b))) := by
 refine fn0 (nt := 24) (F0 := [(0, .agg #[Vi a.size, Vi a.hashes, .slice aa_0 a.set.length ca_0]), (1, .agg #[Vi b.size, Vi b.hashes, .slice ab_0 b.set.length cb_0])]) Try.func22 rfl Try.ntmps22 rfl rfl (fun w0 hpre => ?_)
 obtain ⟨ha_0, hb_0⟩ := hpre
 have hlha_0 := ha_0.2.1
 have hlhb_0 := hb_0.2.1
 refine c_seq (c_region ?_)
 refine o_box (v := .agg #[Vi a.size, Vi a.hashes, .slice aa_0 a.set.length ca_0]) rfl rfl (fun B1 => ?_)
 refine o_box (v := .agg #[Vi b.size, Vi b.hashes, .slice ab_0 b.set.length cb_0]) rfl rfl (fun B2 => ?_)
 refine o_as rfl rfl ?_
 refine o_nil (q_then (c_seq (c_region ?_)))
 refine o_p (p_fieldAddr (j' := 0) rfl fo24_0 rfl) ?_
 refine o_p (p_load (i := 1) (v := Vi a.size) rfl rfl sh3 rfl) ?_
 refine o_p (p_fieldAddr (j' := 0) rfl fo24_0 rfl) ?_
 refine o_p (p_load (i := 0) (v := Vi b.size) rfl rfl sh3 rfl) ?_
 refine o_p (p_eq rfl rfl) ?_
 refine o_mv rfl rfl ?_
 refine o_and (p := 16) 6 (a.hashes == b.hashes) ?_ ?_ ?_
 ·intro hb3 hk
  simp only [beq_iff_eq] at hb3
  refine o_unguard 10 rfl rfl ?_
  refine o_p (p_fieldAddr (j' := 1) rfl fo24_1 rfl) ?_
  refine o_unguard 10 rfl rfl ?_
  refine o_p (p_load (i := 1) (v := Vi a.hashes) rfl rfl sh3 rfl) ?_
  refine o_unguard 10 rfl rfl ?_
  refine o_p (p_fieldAddr (j' := 1) rfl fo24_1 rfl) ?_
  refine o_unguard 10 rfl rfl ?_
  refine o_p (p_load (i := 0) (v := Vi b.hashes) rfl rfl sh3 rfl) ?_
  refine o_unguard 10 rfl rfl ?_
  refine o_p (p_eq rfl rfl) ?_
  refine o_pt rfl rfl rfl ?_
  exact o_sub (sr (Sub.skip rfl (Sub.skip rfl (Sub.skip rfl (Sub.skip rfl (Sub.skip rfl (Sub.skip rfl (Sub.skip rfl (Sub.refl _))))))))) hk
 ·intro hb3 hk
  refine o_guard_no rfl 10 rfl rfl rfl rfl rfl ?_
  refine o_guard_no rfl 10 rfl rfl rfl rfl rfl ?_
  refine o_guard_no rfl 10 rfl rfl rfl rfl rfl ?_
  refine o_guard_no rfl 10 rfl rfl rfl rfl rfl ?_
  refine o_guard_no rfl 10 rfl rfl rfl rfl rfl ?_
  refine o_pf rfl rfl rfl ?_
  exact o_sub (sr (Sub.skip rfl (Sub.skip rfl (Sub.skip rfl (Sub.skip rfl (Sub.skip rfl (Sub.skip rfl (Sub.skip rfl (Sub.refl _))))))))) hk
 refine o_mv rfl rfl ?_
 refine o_and (p := 23) 6 (Ref.sameInts a.set b.set) ?_ ?_ ?_
 ·intro hb4 hk
  simp only [Bool.and_eq_true, beq_iff_eq] at hb4
  refine o_unguard 17 rfl rfl ?_
  refine o_p (p_fieldAddr (j' := 2) rfl fo24_2 rfl) ?_
  refine o_unguard 17 rfl rfl ?_
  refine o_p (p_load (i := 1) (v := .slice aa_0 a.set.length ca_0) rfl rfl sh22 rfl) ?_
  refine o_unguard 17 rfl rfl ?_
  refine o_p (p_fieldAddr (j' := 2) rfl fo24_2 rfl) ?_
  refine o_unguard 17 rfl rfl ?_
  refine o_p (p_load (i := 0) (v := .slice ab_0 b.set.length cb_0) rfl rfl sh22 rfl) ?_
  refine o_unguard 17 rfl rfl ?_
  refine o_call0 (v := .bool (Ref.sameInts a.set b.set)) rfl (sameInts_ok a.set aa_0 ca_0 b.set ab_0 cb_0) hf18 (fun w hw => ⟨(rd_base (i := 2) rfl ha_0) w hw, (rd_base (i := 2) rfl hb_0) w hw⟩) rfl ?_
  refine o_pt rfl rfl rfl ?_
  exact o_sub (sr (Sub.skip rfl (Sub.skip rfl (Sub.skip rfl (Sub.skip rfl (Sub.skip rfl (Sub.skip rfl (Sub.skip rfl (Sub.refl _))))))))) hk
 ·intro hb4 hk
  refine o_guard_no rfl 17 rfl rfl rfl rfl rfl ?_
  refine o_guard_no rfl 17 rfl rfl rfl rfl rfl ?_
  refine o_guard_no rfl 17 rfl rfl rfl rfl rfl ?_
  refine o_guard_no rfl 17 rfl rfl rfl rfl rfl ?_
  refine o_guard_no rfl 17 rfl rfl rfl rfl rfl ?_
  refine o_pf rfl rfl rfl ?_
  exact o_sub (sr (Sub.skip rfl (Sub.skip rfl (Sub.skip rfl (Sub.skip rfl (Sub.skip rfl (Sub.skip rfl (Sub.skip rfl (Sub.refl _))))))))) hk
 refine o_as rfl rfl ?_
 refine o_nil (q_then (c_ret ?_))
 have hr0 : ((((a.size == b.size) && (a.hashes == b.hashes)) && (Ref.sameInts a.set b.set)) : Bool) = (decide (a = b)) := by
  rw [Bool.eq_iff_iff]; cases a; cases b; simp [Ref.sameInts, and_assoc]; done
 refine q_end0 (v := .bool (((a.size == b.size) && (a.hashes == b.hashes)) && (Ref.sameInts a.set b.set))) (rt1 rfl (r_tmp rfl)) (i := 2) rfl ?_
 exact (by have hcc := congrArg (fun (y0 : Bool) => (.bool y0 : Value)) hr0; exact hcc)
end Go.Proofs.Ytfncgfcehkalnaa
