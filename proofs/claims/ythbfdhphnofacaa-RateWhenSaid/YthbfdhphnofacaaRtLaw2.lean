/- Token buckets: the plain laws of the parts and of the tick. -/
import Derived.Test.YthbfdhphnofacaaRtLaw
namespace Go.Sx.Rate
theorem q_le {b : DBucket} {at_ k : Int} (h : Ok' b at_) : k ≤ q b at_ ↔ k * b.every ≤ at_ - b.at_ := by
  unfold q; exact Int.le_ediv_iff_mul_le (by have := h.e1; omega)
theorem gone_has {b : DBucket} {at_ : Int} (h : Ok' b at_) : (gone b at_).has = min b.most (b.has + q b at_) := by
  rw [gone_eq h]; split <;> dsimp only <;> omega
theorem parts {b : DBucket} {at_ to_ : Int} (h : Ok' b at_) (h2 : (gone b at_).at_ ≤ to_) (h3 : to_ ≤ 1099511627776) : Ok' b to_ ∧ Ok' (gone b at_) to_ ∧ (gone (gone b at_) to_).has = (gone b to_).has ∧ (gone (gone b at_) to_ = gone b to_ ∨ (gone (gone b at_) to_).has = (gone (gone b at_) to_).most) ∧ (gone b at_).has ≤ (gone (gone b at_) to_).has := by
  have F1 := gone_facts h
  have K1 : Ok' b to_ := by obtain ⟨h1, h2, h3, h4, h5, h6, h7, h8, h9⟩ := h; exact ⟨by omega, by omega, by omega, by omega, by omega, by omega, by omega, by omega, by omega⟩
  have K2 : Ok' (gone b at_) to_ := by obtain ⟨f1, f2, f3, f4, f5, f6, f7⟩ := F1; obtain ⟨h1, h2, h3, h4, h5, h6, h7, h8, h9⟩ := h; exact ⟨by omega, by omega, by omega, by omega, by omega, by omega, by omega, by omega, by omega⟩
  have F2 := gone_facts K2
  have ⟨a1, a2, a3, a4⟩ := q_facts h
  have ⟨b1, b2, b3, b4⟩ := q_facts K1
  have ⟨c1, c2, c3, c4⟩ := q_facts K2
  refine ⟨K1, K2, ?_⟩
  by_cases hf : b.most ≤ b.has + q b at_
  · have e1 : gone b at_ = ⟨b.most, b.every, b.most, at_⟩ := by rw [gone_eq h, if_pos hf]
    have hx : (gone b at_).most = b.most ∧ (gone b at_).has = b.most ∧ (gone b at_).at_ = at_ := by rw [e1]; exact ⟨rfl, rfl, rfl⟩
    have hge : q b at_ ≤ q b to_ := (q_le K1).2 (by omega)
    have y1 : (gone (gone b at_) to_).has = b.most := by rw [gone_has K2]; omega
    have z1 : (gone b to_).has = b.most := by rw [gone_has K1]; omega
    refine ⟨by omega, Or.inr (by omega), by omega⟩
  · have e1 : gone b at_ = ⟨b.most, b.every, b.has + q b at_, b.at_ + q b at_ * b.every⟩ := by rw [gone_eq h, if_neg hf]
    have hq : q (gone b at_) to_ = q b to_ - q b at_ := by
      rw [e1]
      show (to_ - (b.at_ + q b at_ * b.every)) / b.every = _
      have : to_ - (b.at_ + q b at_ * b.every) = (to_ - b.at_) + (- q b at_) * b.every := by rw [Int.neg_mul]; omega
      rw [this, Int.add_mul_ediv_right _ _ (by have := h.e1; omega)]
      show q b to_ + - q b at_ = _
      omega
    have hy : gone (gone b at_) to_ = gone b to_ := by
      rw [gone_eq K2, gone_eq K1, hq, e1]
      dsimp only
      rw [show b.has + q b at_ + (q b to_ - q b at_) = b.has + q b to_ by omega, show b.at_ + q b at_ * b.every + (q b to_ - q b at_) * b.every = b.at_ + q b to_ * b.every by rw [Int.sub_mul]; omega]
    exact ⟨by rw [hy], Or.inl hy, by omega⟩
theorem gone_after {b : DBucket} {at_ to_ : Int} (h : Ok' b at_) (h2 : at_ ≤ to_) (h3 : to_ ≤ 1099511627776) : (gone b to_).has = min b.most ((gone b at_).has + q (gone b at_) to_) := by
  obtain ⟨K1, K2, e, _, _⟩ := parts h (by have := gone_facts h; omega) h3
  rw [← e, gone_has K2, (gone_facts h).1]
theorem parts_ret {b : DBucket} {at_ to_ : Int} (h : check b at_ = 0) (h2 : check (advance b at_) to_ = 0) : Value.bool
      (check b to_ == 0 && (advance (advance b at_) to_).has == (advance b to_).has &&
          ((advance (advance b at_) to_).most == (advance b to_).most &&
              ((advance (advance b at_) to_).every == (advance b to_).every &&
                ((advance (advance b at_) to_).has == (advance b to_).has &&
                  (advance (advance b at_) to_).at_ == (advance b to_).at_)) ||
            (advance (advance b at_) to_).has == (advance (advance b at_) to_).most) &&
        decide ((advance b at_).has ≤ (advance (advance b at_) to_).has)) =
    Value.bool true := by
  have e1 : advance b at_ = gone b at_ := if_pos h
  have e2 : advance (advance b at_) to_ = gone (gone b at_) to_ := by rw [e1] at h2 ⊢; exact if_pos h2
  have K := ok_of h2
  rw [e1] at K
  obtain ⟨p1, p2, p3, p4, p5⟩ := parts (ok_of h) K.a2 K.a3
  have h3 := of_ok p1
  have e3 : advance b to_ = gone b to_ := if_pos h3
  rw [e2, e1, e3, h3, p3]
  rcases p4 with p4 | p4
  · rw [p4] at p5 ⊢; simp [p5]
  · rw [← p3] at *; simp [p4, p5]; omega
/-- The tick that When returns. -/
theorem when_law {b : DBucket} {at_ many : Int} (h : whenErr b at_ many = 0) : at_ ≤ when_ b at_ many ∧ err b (when_ b at_ many) many = 0 ∧ can b (when_ b at_ many) many = true ∧ (when_ b at_ many ≠ at_ → err b (when_ b at_ many - 1) many = 0 ∧ can b (when_ b at_ many - 1) many = false) ∧ when_ b at_ many ≤ 1099511627776 ∧ 0 ≤ at_ := by
  have hw : when_ b at_ many = whenAt b at_ many := if_pos h
  unfold whenErr at h
  split at h
  · rename_i he
    have hc : check b at_ = 0 := by
      unfold err at he; split at he
      · assumption
      · exact he
    have hm : 1 ≤ many ∧ many ≤ 1048576 := by
      unfold err at he; rw [if_pos hc] at he; split at he
      · assumption
      · cases he
    have K := ok_of hc
    obtain ⟨W1, _⟩ := whenAt_eq K hm
    obtain ⟨f1, f2, f3, f4, f5, f6, f7⟩ := gone_facts K
    split at h
    · cases h
    · rename_i hmost
      split at h
      · rename_i hr
        rw [hw]
        rw [W1] at hr ⊢
        have hK := K
        obtain ⟨k1, k2, k3, k4, k5, k6, k7, k8, k9⟩ := K
        generalize hn : max at_ ((gone b at_).at_ + (many - (gone b at_).has) * b.every) = n at hr ⊢
        have hna : at_ ≤ n := by omega
        have Kn := gone_ok hK hna hr.2
        have mk : ∀ t, b.at_ ≤ t → t ≤ 1099511627776 → err b t many = 0 := fun t t1 t2 => by
          unfold err; rw [if_pos (of_ok ⟨k1, k2, k3, k4, k5, k6, k7, t1, t2⟩), if_pos hm]
        refine ⟨hna, mk n (by omega) hr.2, ?_, fun hne => ?_, hr.2, by omega⟩
        · unfold can; rw [if_pos (mk n (by omega) hr.2), gone_after hK hna hr.2, decide_eq_true_eq]
          have : many - (gone b at_).has ≤ q (gone b at_) n := (q_le Kn).2 (by rw [f2]; omega)
          omega
        · have hn2 : n = (gone b at_).at_ + (many - (gone b at_).has) * b.every := by omega
          have K' := gone_ok hK (to_ := n - 1) (by omega) (by omega)
          refine ⟨mk (n - 1) (by omega) (by omega), ?_⟩
          unfold can; rw [if_pos (mk (n - 1) (by omega) (by omega)), gone_after hK (to_ := n - 1) (by omega) (by omega), decide_eq_false_iff_not]
          have : ¬ many - (gone b at_).has ≤ q (gone b at_) (n - 1) := fun hh => by have := (q_le K').1 hh; rw [f2] at this; omega
          omega
      · cases h
  · exact absurd h (by assumption)
end Go.Sx.Rate
