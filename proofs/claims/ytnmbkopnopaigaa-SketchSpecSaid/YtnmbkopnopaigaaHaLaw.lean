/- Hash functions: the plain laws. -/
import Derived.Test.YtnmbkopnopaigaaHaPure
namespace Go.Sx.Hash
theorem sum_long {s : ByteArray} (salt : UInt64) (h : 40 < s.size) : sum s = 0 ∧ sumErr s = 2 ∧ salted s salt = 0 := by
  have e : sumErr s = 2 := if_pos h
  exact ⟨if_pos h, e, by unfold salted; rw [e]; rfl⟩
theorem sum_short {s : ByteArray} (salt : UInt64) (h : ¬ 40 < s.size) : sum s = raw s ∧ sumErr s = 0 ∧ salted s salt = mix (raw s ^^^ salt) := by
  have e : sumErr s = 0 := if_neg h
  have e2 : sum s = raw s := if_neg h
  exact ⟨e2, e, by unfold salted; rw [e, e2]; rfl⟩
theorem reduce_bad (n : UInt64) {most : Int} (h : most < 1 ∨ 1048576 < most) : reduce n most = 0 ∧ reduceErr most = 3 := ⟨if_pos h, if_pos h⟩
theorem reduce_ok (n : UInt64) {most : Int} (h : 1 ≤ most ∧ most ≤ 1048576) : reduce n most = rawFold n most ∧ reduceErr most = 0 := ⟨if_neg (by omega), if_neg (by omega)⟩
theorem sum_cases (s : ByteArray) (salt : UInt64) : (40 < s.size ∧ sum s = 0 ∧ sumErr s = 2 ∧ salted s salt = 0) ∨ (¬ 40 < s.size ∧ sum s = raw s ∧ sumErr s = 0 ∧ salted s salt = mix (raw s ^^^ salt)) := by
  by_cases h : 40 < s.size
  · exact Or.inl ⟨h, sum_long salt h⟩
  · exact Or.inr ⟨h, sum_short salt h⟩
theorem reduce_cases (n : UInt64) (most : Int) : ((most < 1 ∨ 1048576 < most) ∧ reduce n most = 0 ∧ reduceErr most = 3) ∨ ((1 ≤ most ∧ most ≤ 1048576) ∧ reduce n most = rawFold n most ∧ reduceErr most = 0) := by
  by_cases h : most < 1 ∨ 1048576 < most
  · exact Or.inl ⟨h, reduce_bad n h⟩
  · exact Or.inr ⟨by omega, reduce_ok n (by omega)⟩
theorem reduceOk {most : Int} (h : reduceErr most = 0) : 1 ≤ most ∧ most ≤ 1048576 := by
  unfold reduceErr at h; split at h
  · cases h
  · omega

/-! ### Undoing a mix -/
theorem shrU_xor (a b : UInt64) (k : Nat) : shrU (a ^^^ b) k = shrU a k ^^^ shrU b k := by
  apply UInt64.toNat_inj.1
  rw [shrU_toNat, UInt64.toNat_xor, UInt64.toNat_xor, shrU_toNat, shrU_toNat, ← Nat.shiftRight_eq_div_pow, ← Nat.shiftRight_eq_div_pow, ← Nat.shiftRight_eq_div_pow, Nat.shiftRight_xor_distrib]
theorem shrU_big (a : UInt64) {k : Nat} (h : 64 ≤ k) : shrU a k = 0 := by
  apply UInt64.toNat_inj.1
  rw [shrU_toNat, Nat.min_eq_right h, Nat.div_eq_of_lt a.toNat_lt]; rfl
theorem shrU_shrU (a : UInt64) (i j : Nat) : shrU (shrU a i) j = shrU a (i + j) := by
  rcases Nat.lt_or_ge (i + j) 64 with h | h
  · apply UInt64.toNat_inj.1
    rw [shrU_toNat, shrU_toNat, shrU_toNat, Nat.min_eq_left (by omega), Nat.min_eq_left (by omega), Nat.min_eq_left (by omega), Nat.div_div_eq_div_mul, ← Nat.pow_add]
  · rw [shrU_big a h]
    apply UInt64.toNat_inj.1
    rw [shrU_toNat, shrU_toNat]
    show _ = 0
    rw [Nat.div_div_eq_div_mul, ← Nat.pow_add]
    apply Nat.div_eq_of_lt
    exact Nat.lt_of_lt_of_le a.toNat_lt (Nat.pow_le_pow_right (by decide) (by omega))
def fwd (k : Nat) (x : UInt64) : UInt64 := x ^^^ shrU x k
def back (k : Nat) (n : UInt64) : UInt64 := n ^^^ shrU (n ^^^ shrU n k) k
theorem back_fwd (k : Nat) (h : 64 ≤ 3 * k) (x : UInt64) : back k (fwd k x) = x := by
  unfold back fwd
  rw [shrU_xor, shrU_xor, shrU_xor, shrU_shrU, shrU_shrU, shrU_big x (k := k + k + k) (by omega)]
  rw [UInt64.xor_zero]
  generalize shrU x k = b
  generalize shrU x (k + k) = c
  rw [UInt64.xor_assoc x b, show (b ^^^ (b ^^^ c ^^^ c)) = 0 by rw [UInt64.xor_assoc b c c, UInt64.xor_self, UInt64.xor_zero, UInt64.xor_self], UInt64.xor_zero]
theorem fwd_back (k : Nat) (h : 64 ≤ 3 * k) (n : UInt64) : fwd k (back k n) = n := by
  unfold back fwd
  rw [shrU_xor, shrU_shrU, shrU_xor, shrU_xor, shrU_shrU, shrU_shrU, shrU_big n (k := k + k + k) (by omega)]
  rw [UInt64.xor_zero]
  generalize shrU n k = b
  generalize shrU n (k + k) = c
  rw [UInt64.xor_assoc n, UInt64.xor_self, UInt64.xor_zero]
theorem undo_back (n : UInt64) (k : Int) (h : k = 31 ∨ k = 27 ∨ k = 30) : undo n k = back k.toNat n := by
  rcases h with rfl | rfl | rfl <;> rfl
theorem one_inv : (13787848793156543929 : UInt64) * inverse 13787848793156543929 = 1 := by decide +kernel
theorem two_inv : (10723151780598845931 : UInt64) * inverse 10723151780598845931 = 1 := by decide +kernel
theorem mix_eq (n : UInt64) : mix n = fwd 31 (fwd 27 (fwd 30 n * 13787848793156543929) * 10723151780598845931) := rfl
theorem unmix_eq (n : UInt64) : unmix n = back 30 (back 27 (back 31 n * inverse 10723151780598845931) * inverse 13787848793156543929) := rfl
theorem unmix_mix (n : UInt64) : unmix (mix n) = n := by
  rw [mix_eq, unmix_eq, back_fwd 31 (by decide), UInt64.mul_assoc, two_inv, UInt64.mul_one, back_fwd 27 (by decide), UInt64.mul_assoc, one_inv, UInt64.mul_one, back_fwd 30 (by decide)]
theorem mix_unmix (n : UInt64) : mix (unmix n) = n := by
  rw [mix_eq, unmix_eq, fwd_back 30 (by decide), UInt64.mul_assoc, UInt64.mul_comm (inverse 13787848793156543929), one_inv, UInt64.mul_one, fwd_back 27 (by decide), UInt64.mul_assoc, UInt64.mul_comm (inverse 10723151780598845931), two_inv, UInt64.mul_one, fwd_back 31 (by decide)]
theorem mix_inj (a b : UInt64) : (mix a == mix b) = (a == b) := by
  rw [Bool.eq_iff_iff, beq_iff_eq, beq_iff_eq]
  exact ⟨fun h => by rw [← unmix_mix a, ← unmix_mix b, h], fun h => by rw [h]⟩
end Go.Sx.Hash
