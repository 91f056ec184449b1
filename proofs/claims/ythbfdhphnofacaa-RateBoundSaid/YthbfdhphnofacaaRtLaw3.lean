/- Token buckets: no more is taken than was there and came. -/
import Derived.Test.YthbfdhphnofacaaRtPure
import Derived.Test.YthbfdhphnofacaaSx10
namespace Go.Sx.Rate
/-- What is so after i rounds: the bucket began as b0. -/
structure BInv (b0 b : DBucket) (took now : Int) (i : Nat) : Prop where
  ok : ¬ bad b
  most : b.most = b0.most
  every : b.every = b0.every
  at_ : b.at_ ≤ now
  lo : b0.at_ ≤ now
  hi : now ≤ 549755813888 + (i : Int) * 1048576
  pos : 0 ≤ took
  all : (took + b.has) * b0.every - b.at_ ≤ b0.has * b0.every - b0.at_
  ok0 : ¬ bad b0
theorem BInv.start {b : DBucket} (h : check0 b = 0) (h2 : b.at_ ≤ 549755813888) : BInv b b 0 b.at_ 0 := by
  have hb : ¬ bad b := by
    intro hb; unfold check0 at h; rw [if_pos hb] at h; omega
  exact ⟨hb, rfl, rfl, Int.le_refl _, Int.le_refl _, by omega, Int.le_refl _, by simp, hb⟩
theorem mul_tdiv {n e : Int} (hn : 0 ≤ n) (he : 0 < e) : 0 ≤ n.tdiv e ∧ n.tdiv e * e ≤ n ∧ n < n.tdiv e * e + e ∧ n.tdiv e ≤ n := by
  rw [Int.tdiv_eq_ediv_of_nonneg hn]
  have h1 := Int.mul_ediv_add_emod n e
  have h2 := Int.emod_nonneg n (by omega : e ≠ 0)
  have h3 := Int.emod_lt_of_pos n he
  have h4 : 0 ≤ n / e := Int.ediv_nonneg hn (by omega)
  have h5 : n / e * e = e * (n / e) := Int.mul_comm _ _
  refine ⟨h4, by omega, by omega, ?_⟩
  have : n / e * 1 ≤ n / e * e := Int.mul_le_mul_of_nonneg_left (by omega) h4
  omega
/-- Taken is no more than was there and came. -/
theorem BInv.bound {b0 b : DBucket} {took now : Int} {i : Nat} (h : BInv b0 b took now i) (hi : i ≤ 60) :
    IntKind.i64.wrap (now - b0.at_) = now - b0.at_ ∧ IntKind.i64.wrap ((now - b0.at_).tdiv b.every) = (now - b0.at_).tdiv b.every ∧
    IntKind.i64.wrap (b0.has + (now - b0.at_).tdiv b.every) = b0.has + (now - b0.at_).tdiv b.every ∧ took ≤ b0.has + (now - b0.at_).tdiv b.every ∧ took ≤ 1099511627776 := by
  obtain ⟨ok, hm, he, ha, lo, hhi, pos, all, ok0⟩ := h
  unfold bad at ok ok0
  rw [he]
  have hE : 0 < b0.every := by omega
  obtain ⟨q1, q2, q3, q4⟩ := mul_tdiv (n := now - b0.at_) (e := b0.every) (by omega) hE
  generalize hq : (now - b0.at_).tdiv b0.every = q at *
  have hn : now ≤ 549755813888 + 60 * 1048576 := by omega
  have hall : (took - b0.has - q) * b0.every < b0.every := by
    have e1 : (took - b0.has - q) * b0.every = took * b0.every - b0.has * b0.every - q * b0.every := by rw [Int.sub_mul, Int.sub_mul]
    have e2 : (took + b.has) * b0.every = took * b0.every + b.has * b0.every := Int.add_mul _ _ _
    have e3 : 0 ≤ b.has * b0.every := Int.mul_nonneg (by omega) (by omega)
    omega
  have hle : took - b0.has - q ≤ 0 := by
    by_cases h : 0 < took - b0.has - q
    · have : 1 * b0.every ≤ (took - b0.has - q) * b0.every := Int.mul_le_mul_of_nonneg_right (by omega) (by omega)
      omega
    · omega
  refine ⟨wrap_i64 (by omega), wrap_i64 (by omega), wrap_i64 (by omega), by omega, by omega⟩
theorem BInv.next {b0 b : DBucket} {took now : Int} {i : Nat} (h : BInv b0 b took now i) (hi : i < 60) (x : Int) :
    IntKind.i64.wrap (now + andI x 1048575) = now + andI x 1048575 ∧ 0 ≤ andI x 1048575 ∧ andI x 1048575 ≤ 1048575 := by
  obtain ⟨a1, a2⟩ := andI_low x 1048575 (by decide)
  have a2' : andI x 1048575 ≤ 1048575 := a2
  have a1' : 0 ≤ andI x 1048575 := a1
  have := h.ok0; unfold bad at this
  have := h.lo; have := h.hi
  exact ⟨wrap_i64 (by omega), a1', a2'⟩
theorem BInv.skip {b0 b : DBucket} {took now : Int} {i : Nat} (h : BInv b0 b took now i) (hi : i < 60) (x : Int) : BInv b0 b took (IntKind.i64.wrap (now + andI x 1048575)) (i + 1) := by
  obtain ⟨e, a1, a2⟩ := h.next hi x
  rw [e]
  obtain ⟨ok, hm, he, ha, lo, hhi, pos, all, ok0⟩ := h
  exact ⟨ok, hm, he, by omega, by omega, by omega, pos, all, ok0⟩
theorem gone_keeps {b : DBucket} {at_ : Int} (hb : ¬ bad b) (h1 : b.at_ ≤ at_) (h2 : at_ ≤ 1099511627776) :
    (gone b at_).most = b.most ∧ (gone b at_).every = b.every ∧ 0 ≤ (gone b at_).has ∧ (gone b at_).has ≤ b.most ∧ b.at_ ≤ (gone b at_).at_ ∧ (gone b at_).at_ ≤ at_ ∧ (gone b at_).has * b.every - (gone b at_).at_ ≤ b.has * b.every - b.at_ := by
  unfold bad at hb
  obtain ⟨q1, q2, q3, q4⟩ := mul_tdiv (n := at_ - b.at_) (e := b.every) (by omega) (by omega)
  have ec : come b at_ = (at_ - b.at_).tdiv b.every := by
    unfold come; rw [wrap_i64 (z := at_ - b.at_) (by omega), wrap_i64 (by omega)]
  unfold gone
  rw [ec]
  generalize (at_ - b.at_).tdiv b.every = q at *
  have hE : 0 < b.every := by omega
  have hqe : 0 ≤ q * b.every := Int.mul_nonneg q1 (by omega)
  rw [wrap_i64 (z := b.has + q) (by omega), wrap_i64 (z := q * b.every) (by omega), wrap_i64 (z := b.at_ + q * b.every) (by omega)]
  split
  · refine ⟨rfl, rfl, by simp only; omega, by simp only; omega, by simp only; omega, by simp only; omega, ?_⟩
    simp only
    rename_i hm
    have e1 : b.most * b.every ≤ (b.has + q) * b.every := Int.mul_le_mul_of_nonneg_right hm (by omega)
    rw [Int.add_mul] at e1
    omega
  · rename_i hm
    refine ⟨rfl, rfl, by simp only; omega, by simp only; omega, by simp only; omega, by simp only; omega, ?_⟩
    simp only
    rw [Int.add_mul]; omega
theorem BInv.take_ {b0 b : DBucket} {took now : Int} {i : Nat} {m x : Int} (h : BInv b0 b took now i) (hi : i < 60) (he : err b (IntKind.i64.wrap (now + andI x 1048575)) m = 0) :
    (take b (IntKind.i64.wrap (now + andI x 1048575)) m).every ≠ 0 ∧
    (can b (IntKind.i64.wrap (now + andI x 1048575)) m = true → BInv b0 (take b (IntKind.i64.wrap (now + andI x 1048575)) m) (IntKind.i64.wrap (took + m)) (IntKind.i64.wrap (now + andI x 1048575)) (i + 1)) ∧
    (can b (IntKind.i64.wrap (now + andI x 1048575)) m = false → BInv b0 (take b (IntKind.i64.wrap (now + andI x 1048575)) m) took (IntKind.i64.wrap (now + andI x 1048575)) (i + 1)) := by
  obtain ⟨e, a1, a2⟩ := h.next hi x
  have hb := h.bound (by omega)
  rw [e] at he ⊢
  clear e
  generalize andI x 1048575 = d at *
  have hs : BInv b0 b took (now + d) (i + 1) := by
    obtain ⟨ok, hm, he, ha, lo, hhi, pos, all, ok0⟩ := h
    exact ⟨ok, hm, he, by omega, by omega, by omega, pos, all, ok0⟩
  generalize now + d = n1 at *
  have hck : check b n1 = 0 ∧ 1 ≤ m ∧ m ≤ 1048576 := by
    unfold err at he; split at he
    · rename_i hc; split at he
      · exact ⟨hc, by omega, by omega⟩
      · omega
    · contradiction
  have ht : n1 ≤ 1099511627776 := by
    have h1 := hck.1
    unfold check at h1; rw [if_neg h.ok] at h1; split at h1
    · omega
    · omega
  obtain ⟨g1, g2, g3, g4, g5, g6, g7⟩ := gone_keeps h.ok hs.at_ ht
  have hok := h.ok; have hok0 := h.ok0
  unfold bad at hok hok0
  have hev := h.every; have hmo := h.most
  have htk : take b n1 m = if m ≤ (gone b n1).has then ⟨(gone b n1).most, (gone b n1).every, IntKind.i64.wrap ((gone b n1).has - m), (gone b n1).at_⟩ else gone b n1 := by unfold take; rw [if_pos he]
  have hcn : can b n1 m = decide (m ≤ (gone b n1).has) := by unfold can; rw [if_pos he]
  rw [htk, hcn]
  have hall := hs.all; have hpos := hs.pos; have hlo := hs.lo; have hhi := hs.hi
  rw [hev] at g7
  have e2 : (took + b.has) * b0.every = took * b0.every + b.has * b0.every := Int.add_mul _ _ _
  refine ⟨?_, fun hc => ?_, fun hc => ?_⟩
  · split <;> (try simp only) <;> omega
  · have hc' : m ≤ (gone b n1).has := of_decide_eq_true hc
    rw [if_pos hc', wrap_i64 (z := (gone b n1).has - m) (by omega), wrap_i64 (z := took + m) (by omega)]
    refine ⟨?_, ?_, ?_, ?_, hlo, hhi, by omega, ?_, h.ok0⟩
    · unfold bad; simp only; omega
    · simp only; omega
    · simp only; omega
    · simp only; omega
    · simp only
      rw [show took + m + ((gone b n1).has - m) = took + (gone b n1).has by omega, Int.add_mul]; omega
  · have hc' : ¬ m ≤ (gone b n1).has := of_decide_eq_false hc
    rw [if_neg hc']
    refine ⟨?_, by omega, by omega, by omega, hlo, hhi, by omega, ?_, h.ok0⟩
    · unfold bad; omega
    · rw [Int.add_mul]; omega
theorem BInv.fine {b0 b : DBucket} {took now : Int} {i : Nat} (h : BInv b0 b took now i) (hi : i ≤ 60) :
    ¬ (((IntKind.i64.wrap (b0.has + IntKind.i64.wrap ((IntKind.i64.wrap (now - b0.at_)).tdiv b.every)) < took ∨ b.most < b.has) ∨ b.has < 0) ∨ check0 b ≠ 0) := by
  obtain ⟨e1, e2, e3, e4, e5⟩ := h.bound hi
  rw [e1, e2, e3]
  have ok := h.ok
  have hc : check0 b = 0 := if_neg ok
  unfold bad at ok
  rw [hc]
  omega
end Go.Sx.Rate
