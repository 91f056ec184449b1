/- Token buckets: the plain laws. -/
import Derived.Test.YthbfdhphnofacaaRtPure
namespace Go.Sx.Rate
def q (b : DBucket) (at_ : Int) : Int := (at_ - b.at_) / b.every
theorem wrap_ok {z : Int} (h : -9223372036854775808 ≤ z ∧ z ≤ 9223372036854775807) : IntKind.i64.wrap z = z := wrap_i64 h
/-- What a right bucket at a right tick is. -/
structure Ok' (b : DBucket) (at_ : Int) : Prop where
  m1 : 1 ≤ b.most
  m2 : b.most ≤ 1048576
  e1 : 1 ≤ b.every
  e2 : b.every ≤ 1048576
  h1 : 0 ≤ b.has
  h2 : b.has ≤ b.most
  a1 : 0 ≤ b.at_
  a2 : b.at_ ≤ at_
  a3 : at_ ≤ 1099511627776
theorem ok_of {b : DBucket} {at_ : Int} (h : check b at_ = 0) : Ok' b at_ := by
  unfold check at h
  split at h
  · cases h
  · rename_i hb
    split at h
    · cases h
    · split at h
      · cases h
      · unfold bad at hb
        exact ⟨by omega, by omega, by omega, by omega, by omega, by omega, by omega, by omega, by omega⟩
theorem of_ok {b : DBucket} {at_ : Int} (h : Ok' b at_) : check b at_ = 0 := by
  obtain ⟨h1, h2, h3, h4, h5, h6, h7, h8, h9⟩ := h
  unfold check
  rw [if_neg (show ¬ bad b by unfold bad; omega), if_neg (by omega), if_neg (by omega)]
theorem check0_of {b : DBucket} {at_ : Int} (h : Ok' b at_) : check0 b = 0 := by
  obtain ⟨h1, h2, h3, h4, h5, h6, h7, h8, h9⟩ := h
  unfold check0
  rw [if_neg (show ¬ bad b by unfold bad; omega)]
theorem q_facts {b : DBucket} {at_ : Int} (h : Ok' b at_) : 0 ≤ q b at_ ∧ q b at_ ≤ at_ - b.at_ ∧ q b at_ * b.every ≤ at_ - b.at_ ∧ at_ - b.at_ < q b at_ * b.every + b.every := by
  obtain ⟨h1, h2, h3, h4, h5, h6, h7, h8, h9⟩ := h
  unfold q
  have g1 : 0 ≤ (at_ - b.at_) / b.every := Int.ediv_nonneg (by omega) (by omega)
  have g2 := Int.ediv_mul_le (at_ - b.at_) (b := b.every) (by omega)
  have g3 := Int.lt_ediv_add_one_mul_self (at_ - b.at_) (b := b.every) (by omega)
  rw [Int.add_mul, Int.one_mul] at g3
  exact ⟨g1, Int.ediv_le_self _ (by omega), g2, g3⟩
theorem come_eq {b : DBucket} {at_ : Int} (h : Ok' b at_) : come b at_ = q b at_ := by
  have ⟨g1, g2, _, _⟩ := q_facts h
  obtain ⟨h1, h2, h3, h4, h5, h6, h7, h8, h9⟩ := h
  unfold come
  rw [wrap_ok (z := at_ - b.at_) (by omega), Int.tdiv_eq_ediv_of_nonneg (by omega)]
  exact wrap_ok (by unfold q at g1 g2; omega)
theorem gone_eq {b : DBucket} {at_ : Int} (h : Ok' b at_) : gone b at_ = if b.most ≤ b.has + q b at_ then ⟨b.most, b.every, b.most, at_⟩ else ⟨b.most, b.every, b.has + q b at_, b.at_ + q b at_ * b.every⟩ := by
  have ⟨g1, g2, g3, g4⟩ := q_facts h
  have g5 : 0 ≤ q b at_ * b.every := Int.mul_nonneg g1 (by have := h.e1; omega)
  unfold gone
  rw [come_eq h]
  obtain ⟨h1, h2, h3, h4, h5, h6, h7, h8, h9⟩ := h
  rw [wrap_ok (z := b.has + q b at_) (by omega), wrap_ok (z := q b at_ * b.every) (by omega), wrap_ok (z := b.at_ + q b at_ * b.every) (by omega)]
theorem rgo_eq {b : DBucket} {at_ : Int} (h : Ok' b at_) : rgo b at_ = gone b at_ := by
  rw [gone_eq h]
  have ⟨g1, g2, g3, g4⟩ := q_facts h
  have g5 : 0 ≤ q b at_ * b.every := Int.mul_nonneg g1 (by have := h.e1; omega)
  have hk := h
  obtain ⟨h1, h2, h3, h4, h5, h6, h7, h8, h9⟩ := h
  have l1 : left b at_ = at_ - b.at_ := wrap_ok (by omega)
  have hd := Int.mul_ediv_add_emod (at_ - b.at_) b.every
  rw [Int.mul_comm] at hd
  have l2 : rest b at_ = at_ - b.at_ - q b at_ * b.every := by
    unfold rest; rw [l1, Int.tmod_eq_emod_of_nonneg (by omega)]; unfold q; omega
  have l3 : IntKind.i64.wrap (left b at_ - rest b at_) = q b at_ * b.every := by rw [l1, l2]; exact (wrap_ok (by omega)).trans (by omega)
  have p1 : (b.most - b.has) * b.every ≤ 1048576 * 1048576 := Int.mul_le_mul (by omega) (by omega) (by omega) (by omega)
  have p0 : 0 ≤ (b.most - b.has) * b.every := Int.mul_nonneg (by omega) (by omega)
  have l4 : IntKind.i64.wrap (IntKind.i64.wrap (b.most - b.has) * b.every) = (b.most - b.has) * b.every := by rw [wrap_ok (z := b.most - b.has) (by omega)]; exact wrap_ok (by omega)
  have l5 : (q b at_ * b.every).tdiv b.every = q b at_ := Int.mul_tdiv_cancel _ (by omega)
  unfold rgo
  rw [l3, l4, l5, wrap_ok (z := q b at_) (by omega), wrap_ok (z := b.has + q b at_) (by omega), l2, wrap_ok (by omega)]
  have hiff : (b.most - b.has) * b.every ≤ q b at_ * b.every ↔ b.most ≤ b.has + q b at_ := by
    constructor
    · intro hh; have := Int.le_of_mul_le_mul_right hh (by omega); omega
    · intro hh; exact Int.mul_le_mul_of_nonneg_right (by omega) (by omega)
  by_cases hc : b.most ≤ b.has + q b at_
  · rw [if_pos (hiff.2 hc), if_pos hc]
  · rw [if_neg (fun hh => hc (hiff.1 hh)), if_neg hc]
    congr 1; omega
/-- What is known of a bucket moved on. -/
theorem gone_facts {b : DBucket} {at_ : Int} (h : Ok' b at_) : (gone b at_).most = b.most ∧ (gone b at_).every = b.every ∧ b.has ≤ (gone b at_).has ∧ (gone b at_).has ≤ b.most ∧ b.at_ ≤ (gone b at_).at_ ∧ (gone b at_).at_ ≤ at_ ∧ ((gone b at_).has < b.most → at_ < (gone b at_).at_ + b.every) := by
  rw [gone_eq h]
  have ⟨g1, g2, g3, g4⟩ := q_facts h
  have g5 : 0 ≤ q b at_ * b.every := Int.mul_nonneg g1 (by have := h.e1; omega)
  obtain ⟨h1, h2, h3, h4, h5, h6, h7, h8, h9⟩ := h
  split
  · exact ⟨rfl, rfl, by dsimp only; omega, by dsimp only; omega, by dsimp only; omega, by dsimp only; omega, by dsimp only; omega⟩
  · exact ⟨rfl, rfl, by dsimp only; omega, by dsimp only; omega, by dsimp only; omega, by dsimp only; omega, by dsimp only; omega⟩
theorem gone_ok {b : DBucket} {at_ to_ : Int} (h : Ok' b at_) (h2 : at_ ≤ to_) (h3 : to_ ≤ 1099511627776) : Ok' (gone b at_) to_ := by
  obtain ⟨f1, f2, f3, f4, f5, f6, f7⟩ := gone_facts h
  obtain ⟨h1, h2, h3, h4, h5, h6, h7, h8, h9⟩ := h
  exact ⟨by omega, by omega, by omega, by omega, by omega, by omega, by omega, by omega, by omega⟩
theorem whenAt_eq {b : DBucket} {at_ many : Int} (h : Ok' b at_) (hm : 1 ≤ many ∧ many ≤ 1048576) : whenAt b at_ many = max at_ ((gone b at_).at_ + (many - (gone b at_).has) * b.every) ∧ IntKind.i64.wrap ((gone b at_).at_ + IntKind.i64.wrap (IntKind.i64.wrap (many - (gone b at_).has) * (gone b at_).every)) = (gone b at_).at_ + (many - (gone b at_).has) * b.every := by
  obtain ⟨f1, f2, f3, f4, f5, f6, f7⟩ := gone_facts h
  obtain ⟨h1, h2, h3, h4, h5, h6, h7, h8, h9⟩ := h
  have p1 : (many - (gone b at_).has) * b.every ≤ 1048576 * 1048576 := by
    rcases Int.le_total 0 (many - (gone b at_).has) with hh | hh
    · exact Int.mul_le_mul (by omega) (by omega) (by omega) (by omega)
    · have := Int.mul_nonneg (a := (gone b at_).has - many) (b := b.every) (by omega) (by omega)
      have e : (many - (gone b at_).has) * b.every = - (((gone b at_).has - many) * b.every) := by rw [← Int.neg_mul]; congr 1; omega
      omega
  have p2 : -(1048576 * 1048576) ≤ (many - (gone b at_).has) * b.every := by
    have e : (many - (gone b at_).has) * b.every = - (((gone b at_).has - many) * b.every) := by rw [← Int.neg_mul]; congr 1; omega
    rcases Int.le_total 0 ((gone b at_).has - many) with hh | hh
    · have := Int.mul_le_mul (a := (gone b at_).has - many) (b := b.every) (c := 1048576) (d := 1048576) (by omega) (by omega) (by omega) (by omega); omega
    · have := Int.mul_nonneg (a := many - (gone b at_).has) (b := b.every) (by omega) (by omega); omega
  have e : IntKind.i64.wrap ((gone b at_).at_ + IntKind.i64.wrap (IntKind.i64.wrap (many - (gone b at_).has) * (gone b at_).every)) = (gone b at_).at_ + (many - (gone b at_).has) * b.every := by
    rw [f2, wrap_ok (z := many - (gone b at_).has) (by omega), wrap_ok (z := (many - (gone b at_).has) * b.every) (by omega), wrap_ok (by omega)]
  exact ⟨by unfold whenAt; rw [e], e⟩

theorem advance_eq {b : DBucket} {at_ : Int} (h : check b at_ = 0) : advance b at_ = rgo b at_ := by
  unfold advance; rw [if_pos h, rgo_eq (ok_of h)]
theorem spec_bad {b : DBucket} {at_ many : Int} (h : check b at_ ≠ 0) : advance b at_ = zero ∧ take b at_ many = zero ∧ can b at_ many = false ∧ err b at_ many = check b at_ ∧ whenErr b at_ many = check b at_ ∧ when_ b at_ many = 0 := by
  have e : err b at_ many = check b at_ := if_neg h
  have e2 : whenErr b at_ many = check b at_ := by unfold whenErr; rw [e, if_neg h]
  exact ⟨if_neg h, by unfold take; rw [e, if_neg h], by unfold can; rw [e, if_neg h], e, e2, by unfold when_; rw [e2, if_neg h]⟩
theorem spec_many {b : DBucket} {at_ many : Int} (h : check b at_ = 0) (hm : many < 1 ∨ 1048576 < many) : take b at_ many = zero ∧ can b at_ many = false ∧ err b at_ many = 3 ∧ whenErr b at_ many = 3 ∧ when_ b at_ many = 0 := by
  have e : err b at_ many = 3 := by unfold err; rw [if_pos h, if_neg (by omega)]
  have e2 : whenErr b at_ many = 3 := by unfold whenErr; rw [e]; rfl
  exact ⟨by unfold take; rw [e]; rfl, by unfold can; rw [e]; rfl, e, e2, by unfold when_; rw [e2]; rfl⟩
theorem spec_right {b : DBucket} {at_ many : Int} (h : check b at_ = 0) (hm : 1 ≤ many ∧ many ≤ 1048576) : err b at_ many = 0 ∧ can b at_ many = decide (many ≤ (rgo b at_).has) ∧
    take b at_ many = (if many ≤ (rgo b at_).has then ⟨(rgo b at_).most, (rgo b at_).every, IntKind.i64.wrap ((rgo b at_).has - many), (rgo b at_).at_⟩ else rgo b at_) ∧
    (∀ w, w = (if many ≤ (rgo b at_).has then at_ else IntKind.i64.wrap ((rgo b at_).at_ + IntKind.i64.wrap (IntKind.i64.wrap (many - (rgo b at_).has) * (rgo b at_).every))) → ((b.most < many ∨ 1099511627776 < w) ∧ whenErr b at_ many = 5 ∧ when_ b at_ many = 0) ∨ (¬ (b.most < many ∨ 1099511627776 < w) ∧ whenErr b at_ many = 0 ∧ when_ b at_ many = w)) := by
  have e : err b at_ many = 0 := by unfold err; rw [if_pos h, if_pos hm]
  have K := ok_of h
  rw [rgo_eq K]
  have ⟨W1, W2⟩ := whenAt_eq K hm
  rw [W2]
  refine ⟨e, by unfold can; rw [if_pos e], by unfold take; rw [if_pos e], fun w hw => ?_⟩
  obtain ⟨f1, f2, f3, f4, f5, f6, f7⟩ := gone_facts K
  have hwr : b.most ≥ many → whenAt b at_ many = w ∧ 0 ≤ w := fun hbm => by
    rw [W1, hw]
    obtain ⟨h1, h2, h3, h4, h5, h6, h7, h8, h9⟩ := K
    split
    · have := Int.mul_nonneg (a := (gone b at_).has - many) (b := b.every) (by omega) (by omega)
      have e : (many - (gone b at_).has) * b.every = - (((gone b at_).has - many) * b.every) := by rw [← Int.neg_mul]; congr 1; omega
      omega
    · have := Int.mul_le_mul (a := 1) (b := b.every) (c := many - (gone b at_).has) (d := b.every) (by omega) (by omega) (by omega) (by omega)
      omega
  unfold when_ whenErr
  rw [if_pos e, f1]
  by_cases hh : b.most < many ∨ 1099511627776 < w
  · refine Or.inl ⟨hh, ?_⟩
    by_cases hb : b.most < many
    · rw [if_pos hb]; exact ⟨rfl, rfl⟩
    · have := hwr (by omega)
      rw [if_neg hb, this.1, if_neg (by omega)]; exact ⟨rfl, rfl⟩
  · refine Or.inr ⟨hh, ?_⟩
    have := hwr (by omega)
    rw [if_neg (by omega), this.1, if_pos (by omega)]; exact ⟨rfl, rfl⟩
end Go.Sx.Rate
