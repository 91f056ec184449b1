/- Hash functions: the plain functions. -/
import Derived.Test.YtfncgfcehkalnaaSx1M11
import Derived.Test.YtfncgfcehkalnaaSx12M16
import Derived.Sort.Row
import Derived.Sort.Grow
import Derived.Lib.SlicesCompact
namespace Go.Sx.Hash
def mix (n : UInt64) : UInt64 :=
  ((((n ^^^ shrU n 30) * 13787848793156543929) ^^^ shrU ((n ^^^ shrU n 30) * 13787848793156543929) 27) * 10723151780598845931) ^^^ shrU ((((n ^^^ shrU n 30) * 13787848793156543929) ^^^ shrU ((n ^^^ shrU n 30) * 13787848793156543929) 27) * 10723151780598845931) 31
def rawTo (s : ByteArray) : Nat → UInt64
  | 0 => 14695981039346656037
  | i + 1 => (rawTo s i ^^^ (byteAt s i).toUInt64) * 1099511628211
def raw (s : ByteArray) : UInt64 := rawTo s s.size
def sum (s : ByteArray) : UInt64 := if 40 < s.size then 0 else raw s
def sumErr (s : ByteArray) : Int := if 40 < s.size then 2 else 0
def undoTo (n : UInt64) (by_ : Nat) : Nat → UInt64
  | 0 => n
  | k + 1 => n ^^^ shrU (undoTo n by_ k) by_
def undo (n : UInt64) (by_ : Int) : UInt64 := undoTo n by_.toNat (64 / by_.toNat)
def invTo (n : UInt64) : Nat → UInt64
  | 0 => n
  | k + 1 => invTo n k * (2 - n * invTo n k)
def inverse (n : UInt64) : UInt64 := invTo n 5
def unmix (n : UInt64) : UInt64 := undo (undo (undo n 31 * inverse 10723151780598845931) 27 * inverse 13787848793156543929) 30
def rawFold (n : UInt64) (most : Int) : Int := IntKind.i64.wrap ((shrU (shrU n 32 * toU most) 32).toNat : Int)
def reduce (n : UInt64) (most : Int) : Int := if most < 1 ∨ 1048576 < most then 0 else rawFold n most
def reduceErr (most : Int) : Int := if most < 1 ∨ 1048576 < most then 3 else 0
def salted (s : ByteArray) (salt : UInt64) : UInt64 := if sumErr s = 0 then mix (sum s ^^^ salt) else 0
theorem half_step (n : UInt64) (i : Nat) : shrU n i / 2 = shrU n (i + 1) := by
  apply UInt64.toNat_inj.1
  rw [UInt64.toNat_div, shrU_toNat, shrU_toNat]
  show n.toNat / 2 ^ min i 64 / 2 = _
  have h := n.toNat_lt
  rcases Nat.lt_or_ge i 64 with h' | h'
  · rw [Nat.min_eq_left (by omega), Nat.min_eq_left (by omega), Nat.div_div_eq_div_mul, Nat.pow_succ]
  · rw [Nat.min_eq_right h', Nat.min_eq_right (by omega), Nat.div_eq_of_lt h]
theorem shrU_zero (n : UInt64) : shrU n 0 = n := by apply UInt64.toNat_inj.1; rw [shrU_toNat]; simp
theorem times_step (a b : UInt64) : a * b = (a + a) * (b / 2) + a * (b % 2) := by
  have h : b = 2 * (b / 2) + b % 2 := by
    apply UInt64.toNat_inj.1
    rw [UInt64.toNat_add, UInt64.toNat_mul, UInt64.toNat_div, UInt64.toNat_mod]
    have := b.toNat_lt
    show b.toNat = (2 * (b.toNat / 2) % 2 ^ 64 + b.toNat % 2) % 2 ^ 64
    omega
  have e : a + a = a * 2 := by
    apply UInt64.toNat_inj.1
    rw [UInt64.toNat_add, UInt64.toNat_mul]
    show _ = a.toNat * 2 % 2 ^ 64
    omega
  rw [e, UInt64.mul_assoc, ← UInt64.mul_add, ← h]
theorem undoBound {b : Int} (h : 1 ≤ b ∧ b ≤ 64) : IntKind.i64.wrap (Int.tdiv 64 b) = ((64 / b.toNat : Nat) : Int) := by
  have e : Int.tdiv 64 b = ((64 / b.toNat : Nat) : Int) := by
    rw [Int.tdiv_eq_ediv_of_nonneg (by omega), Int.natCast_ediv]; congr 1; omega
  have hl : 64 / b.toNat ≤ 64 := Nat.div_le_self _ _
  rw [e]
  generalize 64 / b.toNat = m at *
  rw [wrap_i64 (by omega)]
theorem times_odd {a b s t : UInt64} (hI : s + a * b = t) (h : b % 2 = 1) : s + a + (a + a) * (b / 2) = t := by
  rw [← hI, times_step a b, h, UInt64.mul_one, UInt64.add_assoc, UInt64.add_comm a]
theorem times_even {a b s t : UInt64} (hI : s + a * b = t) (h : ¬ b % 2 = 1) : s + (a + a) * (b / 2) = t := by
  have h0 : b % 2 = 0 := by
    apply UInt64.toNat_inj.1
    have h1 : ¬ (b % 2).toNat = 1 := fun e => h (UInt64.toNat_inj.1 e)
    rw [UInt64.toNat_mod] at h1 ⊢
    have : (2 : UInt64).toNat = 2 := rfl
    rw [this] at h1 ⊢
    show _ = 0
    omega
  rw [← hI, times_step a b, h0, UInt64.mul_zero, UInt64.add_zero]
theorem half_less {b : UInt64} (h : 0 < b) : (b / 2).toNat < b.toNat := by
  have h1 := UInt64.lt_iff_toNat_lt.1 h
  rw [UInt64.toNat_div]
  exact Nat.div_lt_self h1 (by decide)
theorem times_end {a b s t : UInt64} (hI : s + a * b = t) (h : ¬ 0 < b) : s = t := by
  have h0 : b = 0 := by
    apply UInt64.toNat_inj.1
    have : ¬ (0 : UInt64).toNat < b.toNat := fun e => h (UInt64.lt_iff_toNat_lt.2 e)
    show _ = 0
    have e0 : (0 : UInt64).toNat = 0 := rfl
    omega
  rw [← hI, h0, UInt64.mul_zero, UInt64.add_zero]
end Go.Sx.Hash

/- Hash functions: the plain laws. -/
namespace Go.Sx.Hash
theorem sum_long {s : ByteArray} (salt : UInt64) (h : 40 < s.size) : sum s = 0 ∧ sumErr s = 2 ∧ salted s salt = 0 := by
  have e : sumErr s = 2 := if_pos h
  exact ⟨if_pos h, e, by unfold salted; rw [e]; rfl⟩
theorem sum_short {s : ByteArray} (salt : UInt64) (h : ¬ 40 < s.size) : sum s = raw s ∧ sumErr s = 0 ∧ salted s salt = mix (raw s ^^^ salt) := by
  have e : sumErr s = 0 := if_neg h
  have e2 : sum s = raw s := if_neg h
  exact ⟨e2, e, by unfold salted; rw [e, e2]; rfl⟩
theorem reduce_bad (n : UInt64) {most : Int} (h : most < 1 ∨ 1048576 < most) : reduce n most = 0 ∧ reduceErr most = 3 := ⟨if_pos h, if_pos h⟩
theorem reduce_ok (n : UInt64) {most : Int} (h : 1 ≤ most ∧ most ≤ 1048576) : reduce n most = rawFold n most ∧ reduceErr most = 0 := ⟨if_neg (by omega), if_neg (by omega)⟩
theorem sum_cases (s : ByteArray) (salt : UInt64) : (40 < s.size ∧ sum s = 0 ∧ sumErr s = 2 ∧ salted s salt = 0) ∨ (¬ 40 < s.size ∧ sum s = raw s ∧ sumErr s = 0 ∧ salted s salt = mix (raw s ^^^ salt)) := by
  by_cases h : 40 < s.size
  · exact Or.inl ⟨h, sum_long salt h⟩
  · exact Or.inr ⟨h, sum_short salt h⟩
theorem reduce_cases (n : UInt64) (most : Int) : ((most < 1 ∨ 1048576 < most) ∧ reduce n most = 0 ∧ reduceErr most = 3) ∨ ((1 ≤ most ∧ most ≤ 1048576) ∧ reduce n most = rawFold n most ∧ reduceErr most = 0) := by
  by_cases h : most < 1 ∨ 1048576 < most
  · exact Or.inl ⟨h, reduce_bad n h⟩
  · exact Or.inr ⟨by omega, reduce_ok n (by omega)⟩
theorem reduceOk {most : Int} (h : reduceErr most = 0) : 1 ≤ most ∧ most ≤ 1048576 := by
  unfold reduceErr at h; split at h
  · cases h
  · omega

/-! ### Undoing a mix -/
theorem shrU_xor (a b : UInt64) (k : Nat) : shrU (a ^^^ b) k = shrU a k ^^^ shrU b k := by
  apply UInt64.toNat_inj.1
  rw [shrU_toNat, UInt64.toNat_xor, UInt64.toNat_xor, shrU_toNat, shrU_toNat, ← Nat.shiftRight_eq_div_pow, ← Nat.shiftRight_eq_div_pow, ← Nat.shiftRight_eq_div_pow, Nat.shiftRight_xor_distrib]
theorem shrU_big (a : UInt64) {k : Nat} (h : 64 ≤ k) : shrU a k = 0 := by
  apply UInt64.toNat_inj.1
  rw [shrU_toNat, Nat.min_eq_right h, Nat.div_eq_of_lt a.toNat_lt]; rfl
theorem shrU_shrU (a : UInt64) (i j : Nat) : shrU (shrU a i) j = shrU a (i + j) := by
  rcases Nat.lt_or_ge (i + j) 64 with h | h
  · apply UInt64.toNat_inj.1
    rw [shrU_toNat, shrU_toNat, shrU_toNat, Nat.min_eq_left (by omega), Nat.min_eq_left (by omega), Nat.min_eq_left (by omega), Nat.div_div_eq_div_mul, ← Nat.pow_add]
  · rw [shrU_big a h]
    apply UInt64.toNat_inj.1
    rw [shrU_toNat, shrU_toNat]
    show _ = 0
    rw [Nat.div_div_eq_div_mul, ← Nat.pow_add]
    apply Nat.div_eq_of_lt
    exact Nat.lt_of_lt_of_le a.toNat_lt (Nat.pow_le_pow_right (by decide) (by omega))
def fwd (k : Nat) (x : UInt64) : UInt64 := x ^^^ shrU x k
def back (k : Nat) (n : UInt64) : UInt64 := n ^^^ shrU (n ^^^ shrU n k) k
theorem back_fwd (k : Nat) (h : 64 ≤ 3 * k) (x : UInt64) : back k (fwd k x) = x := by
  unfold back fwd
  rw [shrU_xor, shrU_xor, shrU_xor, shrU_shrU, shrU_shrU, shrU_big x (k := k + k + k) (by omega)]
  rw [UInt64.xor_zero]
  generalize shrU x k = b
  generalize shrU x (k + k) = c
  rw [UInt64.xor_assoc x b, show (b ^^^ (b ^^^ c ^^^ c)) = 0 by rw [UInt64.xor_assoc b c c, UInt64.xor_self, UInt64.xor_zero, UInt64.xor_self], UInt64.xor_zero]
theorem fwd_back (k : Nat) (h : 64 ≤ 3 * k) (n : UInt64) : fwd k (back k n) = n := by
  unfold back fwd
  rw [shrU_xor, shrU_shrU, shrU_xor, shrU_xor, shrU_shrU, shrU_shrU, shrU_big n (k := k + k + k) (by omega)]
  rw [UInt64.xor_zero]
  generalize shrU n k = b
  generalize shrU n (k + k) = c
  rw [UInt64.xor_assoc n, UInt64.xor_self, UInt64.xor_zero]
theorem undo_back (n : UInt64) (k : Int) (h : k = 31 ∨ k = 27 ∨ k = 30) : undo n k = back k.toNat n := by
  rcases h with rfl | rfl | rfl <;> rfl
theorem one_inv : (13787848793156543929 : UInt64) * inverse 13787848793156543929 = 1 := by decide +kernel
theorem two_inv : (10723151780598845931 : UInt64) * inverse 10723151780598845931 = 1 := by decide +kernel
theorem mix_eq (n : UInt64) : mix n = fwd 31 (fwd 27 (fwd 30 n * 13787848793156543929) * 10723151780598845931) := rfl
theorem unmix_eq (n : UInt64) : unmix n = back 30 (back 27 (back 31 n * inverse 10723151780598845931) * inverse 13787848793156543929) := rfl
theorem unmix_mix (n : UInt64) : unmix (mix n) = n := by
  rw [mix_eq, unmix_eq, back_fwd 31 (by decide), UInt64.mul_assoc, two_inv, UInt64.mul_one, back_fwd 27 (by decide), UInt64.mul_assoc, one_inv, UInt64.mul_one, back_fwd 30 (by decide)]
theorem mix_unmix (n : UInt64) : mix (unmix n) = n := by
  rw [mix_eq, unmix_eq, fwd_back 30 (by decide), UInt64.mul_assoc, UInt64.mul_comm (inverse 13787848793156543929), one_inv, UInt64.mul_one, fwd_back 27 (by decide), UInt64.mul_assoc, UInt64.mul_comm (inverse 10723151780598845931), two_inv, UInt64.mul_one, fwd_back 31 (by decide)]
theorem mix_inj (a b : UInt64) : (mix a == mix b) = (a == b) := by
  rw [Bool.eq_iff_iff, beq_iff_eq, beq_iff_eq]
  exact ⟨fun h => by rw [← unmix_mix a, ← unmix_mix b, h], fun h => by rw [h]⟩
end Go.Sx.Hash

/- Hash functions: reducing, and sums of texts with one end. -/
namespace Go.Sx.Hash
theorem rawFold_eq (n : UInt64) (m : Nat) (h : m ≤ 2097152) : rawFold n (m : Int) = ((n.toNat / 4294967296 * m / 4294967296 : Nat) : Int) := by
  have hn := n.toNat_lt
  have e1 : (shrU n 32).toNat = n.toNat / 4294967296 := by rw [shrU_toNat]; rfl
  have e2 : (toU (m : Int)).toNat = m := by have := toU_toNat (m : Int); omega
  have hb : n.toNat / 4294967296 < 4294967296 := by omega
  have hp : n.toNat / 4294967296 * m ≤ 4294967295 * 2097152 := Nat.mul_le_mul (by omega) h
  unfold rawFold
  rw [shrU_toNat, UInt64.toNat_mul, e1, e2]
  show IntKind.i64.wrap ((n.toNat / 4294967296 * m % 18446744073709551616 / 4294967296 : Nat) : Int) = _
  generalize hq : n.toNat / 4294967296 * m = q at *
  rw [Nat.mod_eq_of_lt (by omega), wrap_i64 (by omega)]
theorem reduce_at (n : UInt64) {most : Int} (h : 1 ≤ most ∧ most ≤ 1048576) : reduce n most = ((n.toNat / 4294967296 * most.toNat / 4294967296 : Nat) : Int) := by
  obtain ⟨m, rfl⟩ : ∃ m : Nat, most = m := ⟨most.toNat, by omega⟩
  rw [(reduce_ok n h).1, rawFold_eq n m (by omega), Int.toNat_natCast]
theorem reduce_law (a b : UInt64) (most : Int) (h : 1 ≤ most ∧ most ≤ 1048576) :
    0 ≤ reduce a most ∧ reduce a most < most ∧ (a ≤ b → reduce a most ≤ reduce b most) ∧ (reduceErr (2 * most) = 0 → (reduce a (2 * most)).tdiv 2 = reduce a most) ∧ reduce 0 most = 0 ∧ reduce 18446744073709551615 most = most - 1 := by
  have ha := a.toNat_lt
  have hb : a.toNat / 4294967296 < 4294967296 := by omega
  rw [reduce_at a h, reduce_at b h, reduce_at 0 h, reduce_at 18446744073709551615 h]
  obtain ⟨m, rfl⟩ : ∃ m : Nat, most = m := ⟨most.toNat, by omega⟩
  rw [Int.toNat_natCast]
  refine ⟨by omega, ?_, fun hab => ?_, fun h2 => ?_, ?_, ?_⟩
  · have : a.toNat / 4294967296 * m / 4294967296 < m := by
      apply Nat.div_lt_of_lt_mul
      exact Nat.mul_lt_mul_of_pos_right hb (by omega)
    omega
  · have := UInt64.le_iff_toNat_le.1 hab
    have : a.toNat / 4294967296 * m / 4294967296 ≤ b.toNat / 4294967296 * m / 4294967296 := Nat.div_le_div_right (Nat.mul_le_mul_right _ (Nat.div_le_div_right this))
    omega
  · rw [reduce_at a (reduceOk h2), show (2 * (m : Int)).toNat = 2 * m by omega]
    generalize a.toNat / 4294967296 = q at *
    rw [show q * (2 * m) = 2 * (q * m) by rw [Nat.mul_left_comm]]
    generalize q * m = r
    rw [Int.tdiv_eq_ediv_of_nonneg (by omega)]
    omega
  · show ((0 / 4294967296 * m / 4294967296 : Nat) : Int) = 0
    simp
  · show ((18446744073709551615 / 4294967296 * m / 4294967296 : Nat) : Int) = _
    omega
theorem reduce_zero {most : Int} (h : reduceErr most ≠ 0 ∨ reduceErr most ≠ 0) (n : UInt64) : reduce n most = 0 := by
  rcases reduce_cases n most with ⟨c, r1, r2⟩ | ⟨c, r1, r2⟩
  · exact r1
  · omega
theorem reduce_bool (a b : UInt64) {most : Int} (h : 1 ≤ most ∧ most ≤ 1048576) (h0 : reduceErr most = 0) :
    (decide (0 ≤ reduce a most) && decide (reduce a most < most) && (decide (b < a) || decide (reduce a most ≤ reduce b most)) && (reduceErr (IntKind.i64.wrap (2 * most)) != 0 || IntKind.i64.wrap ((reduce a (IntKind.i64.wrap (2 * most))).tdiv 2) == reduce a most) &&
      reduceErr most == 0 && reduce 0 most == 0 && reduceErr most == 0 && reduce 18446744073709551615 most == most - 1) = true := by
  obtain ⟨r1, r2, r3, r4, r5, r6⟩ := reduce_law a b most h
  rw [wrap_i64 (show -9223372036854775808 ≤ 2 * most ∧ 2 * most ≤ 9223372036854775807 by omega)]
  have e1 : (decide (b < a) || decide (reduce a most ≤ reduce b most)) = true := by
    by_cases hab : a ≤ b
    · simp [r3 hab]
    · simp [UInt64.not_le.1 hab]
  have e2 : (reduceErr (2 * most) != 0 || IntKind.i64.wrap ((reduce a (2 * most)).tdiv 2) == reduce a most) = true := by
    by_cases hg : reduceErr (2 * most) = 0
    · rw [r4 hg, wrap_i64 (by omega)]; simp
    · simp [hg]
  rw [e1, e2, h0, r5, r6]
  simp [r1, r2]
/-! ### Texts with one end -/
theorem step_inj {x y c : UInt64} (h : (x ^^^ c) * 1099511628211 = (y ^^^ c) * 1099511628211) : x = y := by
  have e : (1099511628211 : UInt64) * inverse 1099511628211 = 1 := by decide +kernel
  have h2 := congrArg (· * inverse 1099511628211) h
  simp only [UInt64.mul_assoc, e, UInt64.mul_one] at h2
  have h3 := congrArg (· ^^^ c) h2
  simpa only [UInt64.xor_assoc, UInt64.xor_self, UInt64.xor_zero] using h3
theorem byteAt_append_left (s t : ByteArray) {i : Nat} (h : i < s.size) : byteAt (s ++ t) i = byteAt s i := by
  unfold byteAt; rw [ByteArray.data_append]
  have : i < s.data.size := h
  simp only [Array.getD, Array.size_append, dif_pos this, dif_pos (show i < s.data.size + t.data.size by omega), Array.getInternal_eq_getElem, Array.getElem_append_left this]
theorem byteAt_append_right (s t : ByteArray) (i : Nat) : byteAt (s ++ t) (s.size + i) = byteAt t i := by
  unfold byteAt; rw [ByteArray.data_append]
  have : s.size = s.data.size := rfl
  rw [this]
  by_cases h : i < t.data.size
  · simp [Array.getD, h, Array.getElem_append_right]
  · simp [Array.getD, h]
theorem rawTo_left (s t : ByteArray) : ∀ i, i ≤ s.size → rawTo (s ++ t) i = rawTo s i
  | 0, _ => rfl
  | i + 1, h => by rw [rawTo, rawTo, rawTo_left s t i (by omega), byteAt_append_left s t (by omega)]
theorem raw_iff (s t m : ByteArray) : ∀ i, rawTo (s ++ m) (s.size + i) = rawTo (t ++ m) (t.size + i) ↔ raw s = raw t
  | 0 => by rw [Nat.add_zero, Nat.add_zero, rawTo_left s m _ (Nat.le_refl _), rawTo_left t m _ (Nat.le_refl _)]; rfl
  | i + 1 => by
    rw [← raw_iff s t m i]
    show (rawTo (s ++ m) (s.size + i) ^^^ (byteAt (s ++ m) (s.size + i)).toUInt64) * 1099511628211 = (rawTo (t ++ m) (t.size + i) ^^^ (byteAt (t ++ m) (t.size + i)).toUInt64) * 1099511628211 ↔ _
    rw [byteAt_append_right, byteAt_append_right]
    exact ⟨step_inj, fun h => by rw [h]⟩
theorem size_append (s t : ByteArray) : (s ++ t).size = s.size + t.size := ByteArray.size_append
theorem raw_append_iff (s t m : ByteArray) : raw (s ++ m) = raw (t ++ m) ↔ raw s = raw t := by
  unfold raw; rw [size_append, size_append]; exact raw_iff s t m m.size
theorem raw_one {s t : ByteArray} (hs : s.size = 1) (ht : t.size = 1) (h : raw s = raw t) : s = t := by
  unfold raw at h; rw [hs, ht] at h
  have h1 : (14695981039346656037 ^^^ (byteAt s 0).toUInt64) * 1099511628211 = (14695981039346656037 ^^^ (byteAt t 0).toUInt64) * (1099511628211 : UInt64) := h
  rw [UInt64.xor_comm _ (byteAt s 0).toUInt64, UInt64.xor_comm _ (byteAt t 0).toUInt64] at h1
  have h2 := step_inj h1
  have h3 : byteAt s 0 = byteAt t 0 := by
    apply UInt8.toNat_inj.1
    have := congrArg UInt64.toNat h2
    simpa using this
  apply ByteArray.ext
  have hs' : s.data.size = 1 := hs
  have ht' : t.data.size = 1 := ht
  apply Array.ext
  · rw [hs', ht']
  · intro i hi hj
    obtain rfl : i = 0 := by omega
    unfold byteAt at h3
    simpa [Array.getD, hs', ht'] using h3
theorem sum_of {s : ByteArray} (h : sumErr s = 0) : sum s = raw s ∧ s.size ≤ 40 := by
  unfold sumErr at h; split at h
  · cases h
  · exact ⟨if_neg (by assumption), by omega⟩
theorem suffix_law {s t m : ByteArray} (h1 : sumErr s = 0) (h2 : sumErr t = 0) (h3 : sumErr (s ++ m) = 0) (h4 : sumErr (t ++ m) = 0) :
    (sum s == sum t) = (sum (s ++ m) == sum (t ++ m)) ∧ (s.size = 1 → t.size = 1 → s ≠ t → sum s ≠ sum t) := by
  rw [(sum_of h1).1, (sum_of h2).1, (sum_of h3).1, (sum_of h4).1]
  refine ⟨?_, fun a b c d => c (raw_one a b d)⟩
  rw [Bool.eq_iff_iff, beq_iff_eq, beq_iff_eq, raw_append_iff]
theorem suffix_bool {s t m : ByteArray} (h1 : sumErr s = 0) (h2 : sumErr t = 0) (h3 : sumErr (s ++ m) = 0) (h4 : sumErr (t ++ m) = 0) :
    ((sum s == sum t) == (sum (s ++ m) == sum (t ++ m)) && ((s.size : Int) != 1 || (t.size : Int) != 1 || decide (s = t) || sum s != sum t)) = true := by
  obtain ⟨l1, l2⟩ := suffix_law h1 h2 h3 h4
  rw [l1]
  by_cases a : s.size = 1
  · by_cases b : t.size = 1
    · by_cases c : s = t
      · simp [c]
      · simp [l2 a b c, bne]
    · have e : ((t.size : Int) != 1) = true := by rw [bne_iff_ne]; omega
      rw [e]; simp
  · have e : ((s.size : Int) != 1) = true := by rw [bne_iff_ne]; omega
    rw [e]; simp
end Go.Sx.Hash

/- Stores with times: the plain functions. -/
namespace Go.Sx
structure DEntry where
  key : Int
  value : Int
  till : Int
deriving DecidableEq
instance : Inhabited DEntry := ⟨⟨0, 0, 0⟩⟩
def tEntry : Ty DEntry := ⟨3, fun c => [.int .i64 c.key, .int .i64 c.value, .int .i64 c.till], fun _ => rfl⟩
structure DStore where
  life : Int
  entries : List DEntry
deriving DecidableEq
/-- the first place that isn't below, in a list where all that is below stands ahead -/
def lowF {α : Type} (f : α → Int) (l : List α) : Nat := (l.takeWhile fun x => decide (f x < 0)).length
structure LowI {α : Type} (f : α → Int) (l : List α) (i j : Int) : Prop where
  i0 : 0 ≤ i
  ij : i ≤ j
  jl : j ≤ (l.length : Int)
  below : ∀ k (h : k < l.length), (k : Int) < i → f l[k] < 0
  above : ∀ k (h : k < l.length), j ≤ (k : Int) → 0 ≤ f l[k]
/-- all that is below stands ahead -/
def Split {α : Type} (f : α → Int) (l : List α) : Prop := ∀ a b (hb : b < l.length) (h : a < b), f l[b] < 0 → f (l[a]'(by omega)) < 0
theorem lowF_eq {α : Type} {f : α → Int} {l : List α} {p : Nat} (hp : p ≤ l.length) (h1 : ∀ k (h : k < l.length), k < p → f l[k] < 0) (h2 : ∀ h : p < l.length, 0 ≤ f l[p]) : lowF f l = p := by
  unfold lowF
  have e : l = l.take p ++ l.drop p := (List.take_append_drop p l).symm
  have h3 : ∀ x ∈ l.take p, decide (f x < 0) = true := fun x hx => by
    obtain ⟨k, hk, rfl⟩ := List.getElem_of_mem hx
    simp only [List.length_take] at hk
    rw [List.getElem_take]; exact decide_eq_true (h1 k (by omega) (by omega))
  conv => lhs; rw [e]
  rw [List.takeWhile_append_of_pos h3]
  have h4 : (l.drop p).takeWhile (fun x => decide (f x < 0)) = [] := by
    by_cases hl : p < l.length
    · rw [List.drop_eq_getElem_cons hl, List.takeWhile_cons, if_neg]
      have := h2 hl; simp; omega
    · rw [List.drop_of_length_le (by omega)]; rfl
  rw [h4, List.append_nil, List.length_take]; omega
theorem lowF_le {α : Type} (f : α → Int) (l : List α) : lowF f l ≤ l.length := by
  unfold lowF; exact (List.takeWhile_sublist _).length_le
theorem LowI.start {α : Type} (f : α → Int) (l : List α) : LowI f l 0 l.length := ⟨Int.le_refl _, by omega, Int.le_refl _, fun k h h2 => by omega, fun k h h2 => by omega⟩
theorem LowI.up {α : Type} {f : α → Int} {l : List α} {i j h : Int} (hI : LowI f l i j) (hs : Split f l) (h1 : i ≤ h) (h2 : h < j) (hl : h.toNat < l.length) (hf : f l[h.toNat] < 0) : LowI f l (h + 1) j :=
  ⟨by have := hI.i0; omega, by omega, hI.jl, fun k hk hlt => by
    by_cases e : k = h.toNat
    · subst e; exact hf
    · exact hs k h.toNat hl (by have := hI.i0; omega) hf, hI.above⟩
theorem LowI.down {α : Type} {f : α → Int} {l : List α} {i j h : Int} (hI : LowI f l i j) (hs : Split f l) (h1 : i ≤ h) (h2 : h < j) (hl : h.toNat < l.length) (hf : 0 ≤ f l[h.toNat]) : LowI f l i h :=
  ⟨hI.i0, h1, by have := hI.jl; omega, hI.below, fun k hk hle => by
    by_cases e : k = h.toNat
    · subst e; exact hf
    · rcases Int.lt_or_le (f l[k]) 0 with h3 | h3
      · have := hs h.toNat k hk (by have := hI.i0; omega) h3; omega
      · exact h3⟩
theorem LowI.done {α : Type} {f : α → Int} {l : List α} {i j : Int} (hI : LowI f l i j) (h : j ≤ i) : i = (lowF f l : Int) := by
  have h0 := hI.i0; have h1 := hI.ij; have h2 := hI.jl
  rw [lowF_eq (p := i.toNat) (by omega) (fun k hk hlt => hI.below k hk (by omega)) (fun hl => hI.above _ hl (by omega))]; omega
namespace Exp
def okEntry (x : DEntry) : Bool := Lru.okKey x.key && decide (-1099511627776 ≤ x.value) && decide (x.value ≤ 1099511627776) && decide (0 ≤ x.till) && decide (x.till ≤ 1100585369600)
def checkGo (last : Int) : List DEntry → Int
  | [] => 0
  | x :: l => if okEntry x = false then 3 else if x.key ≤ last then 4 else checkGo x.key l
def check (s : DStore) : Int := if s.life < 1 ∨ 1073741824 < s.life then 3 else if 40 < s.entries.length then 2 else checkGo (-1) s.entries
structure Ok (s : DStore) : Prop where
  life : 1 ≤ s.life ∧ s.life ≤ 1073741824
  len : s.entries.length ≤ 40
  entry : ∀ x ∈ s.entries, okEntry x = true
  sorted : s.entries.Pairwise fun a b => a.key < b.key
theorem okEntry_iff {x : DEntry} : okEntry x = true ↔ (0 ≤ x.key ∧ x.key ≤ 1048576) ∧ (-1099511627776 ≤ x.value ∧ x.value ≤ 1099511627776) ∧ (0 ≤ x.till ∧ x.till ≤ 1100585369600) := by
  simp [okEntry, Lru.okKey, and_assoc]
theorem checkGo_ok : ∀ (l : List DEntry) (last : Int), checkGo last l = 0 ↔ (∀ x ∈ l, okEntry x = true) ∧ (∀ x ∈ l, last < x.key) ∧ l.Pairwise fun a b => a.key < b.key
  | [], last => by simp [checkGo]
  | x :: l, last => by
    rw [checkGo]
    by_cases h1 : okEntry x = false
    · rw [if_pos h1]; simp [h1]
    · rw [if_neg h1]
      by_cases h2 : x.key ≤ last
      · rw [if_pos h2]
        refine ⟨fun h => absurd h (by decide), fun h => ?_⟩
        have := h.2.1 x (by simp); omega
      · rw [if_neg h2, checkGo_ok l]
        have h1' : okEntry x = true := by simpa using h1
        simp only [List.mem_cons, List.pairwise_cons]
        constructor
        · rintro ⟨a, b, c⟩
          refine ⟨by rintro y (rfl | hy); exact h1'; exact a y hy, ?_, b, c⟩
          rintro y (rfl | hy)
          · omega
          · have := b y hy; omega
        · rintro ⟨a, b, c, d⟩
          exact ⟨fun y hy => a y (.inr hy), c, d⟩
theorem check_ok {s : DStore} : check s = 0 ↔ Ok s := by
  unfold check
  constructor
  · intro e
    split at e
    · cases e
    · split at e
      · cases e
      · have := (checkGo_ok _ _).1 e
        exact ⟨by omega, by omega, this.1, this.2.2⟩
  · rintro ⟨a, b, c, d⟩
    rw [if_neg (by omega), if_neg (by omega)]
    exact (checkGo_ok _ _).2 ⟨c, fun x hx => by have := okEntry_iff.1 (c x hx); omega, d⟩
def live (now : Int) (l : List DEntry) : List DEntry := l.filter fun x => decide (now < x.till)
def over (now : Int) (l : List DEntry) : List Int := (l.filter fun x => decide (x.till ≤ now)).map (·.key)
def okNow (now : Int) : Bool := decide (0 ≤ now) && decide (now ≤ 1099511627776)
def nowErr (s : DStore) (now : Int) : Int := if check s = 0 then (if okNow now then 0 else 3) else check s
def zero : DStore := ⟨0, []⟩
def sweep (s : DStore) (now : Int) : DStore × List Int := if nowErr s now = 0 then (⟨s.life, live now s.entries⟩, over now s.entries) else (zero, [])
def getErr (s : DStore) (key now : Int) : Int := if nowErr s now = 0 then (if Lru.okKey key then 0 else 3) else nowErr s now
def getGo (l : List DEntry) (key now : Int) : Int × Bool := match (live now l).find? (fun x => x.key == key) with | some x => (x.value, true) | none => (0, false)
def get (s : DStore) (key now : Int) : Int × Bool := if getErr s key now = 0 then getGo s.entries key now else (0, false)
def okValue (n : Int) : Bool := decide (-1099511627776 ≤ n) && decide (n ≤ 1099511627776)
def putGo (l : List DEntry) (x : DEntry) : List DEntry := l.filter (fun y => decide (y.key < x.key)) ++ x :: l.filter (fun y => decide (x.key < y.key))
def putErr (s : DStore) (key n now : Int) : Int := if getErr s key now = 0 then (if okValue n then (if 40 < (putGo (live now s.entries) ⟨key, n, now + s.life⟩).length then 8 else 0) else 3) else getErr s key now
def put (s : DStore) (key n now : Int) : DStore := if putErr s key n now = 0 then ⟨s.life, putGo (live now s.entries) ⟨key, n, now + s.life⟩⟩ else zero
def least : List DEntry → Int
  | [] => 0
  | x :: l => l.foldl (fun m y => min m y.till) x.till
def nextErr (s : DStore) : Int := if check s = 0 then (if s.entries.length = 0 then 5 else 0) else check s
def next (s : DStore) : Int := if nextErr s = 0 then least s.entries else 0
end Exp
end Go.Sx

/- Elements by number; numbers compared. -/
namespace Go.Sx
theorem getd_at {α : Type} {L : List α} {i : Nat} (h : i < L.length) (d : α) : L[i] = L.getD i d := by rw [List.getD_eq_getElem?_getD, List.getElem?_eq_getElem h]; rfl
def cmpI (x y : Int) : Int := if x < y then -1 else if y < x then 1 else 0
theorem cmpI_neg {x y : Int} : cmpI x y < 0 ↔ x < y := by unfold cmpI; split; simp [*]; split <;> simp <;> omega
theorem cmpI_zero {x y : Int} : cmpI x y = 0 ↔ x = y := by unfold cmpI; split; simp; omega; split <;> simp <;> omega
theorem cmp_lt {x y : Int} (h : x < y) : -1 = cmpI x y := by unfold cmpI; rw [if_pos h]
theorem cmp_gt {x y : Int} (h1 : y ≤ x) (h : y < x) : 1 = cmpI x y := by unfold cmpI; rw [if_neg (by omega), if_pos h]
theorem cmp_eq {x y : Int} (h1 : y ≤ x) (h2 : x ≤ y) : 0 = cmpI x y := by unfold cmpI; rw [if_neg (by omega), if_neg (by omega)]
end Go.Sx

/- Stores with times: searching, sweeping, storing; the loops of the program and of the reference. -/
namespace Go.Sx
/-- where the halving search ends -/
def hitF {α : Type} [Inhabited α] (f : α → Int) (l : List α) : Bool := decide ((lowF f l : Int) < (l.length : Int)) && (f (l.getD (lowF f l) default) == 0)
theorem low_spec {α : Type} {f : α → Int} {l : List α} : (∀ k (h : k < l.length), k < lowF f l → f l[k] < 0) ∧ ∀ h : lowF f l < l.length, 0 ≤ f l[lowF f l] := by
  unfold lowF
  induction l with
  | nil => simp
  | cons x l ih =>
    rw [List.takeWhile_cons]
    by_cases h : f x < 0
    · rw [if_pos (by simp [h])]
      refine ⟨fun k hk hlt => ?_, fun hk => ?_⟩
      · cases k with
        | zero => exact h
        | succ k => exact ih.1 k (by simpa using hk) (by simpa using hlt)
      · exact ih.2 (by simpa using hk)
    · rw [if_neg (by simpa using h)]
      exact ⟨fun k hk hlt => by simp at hlt, fun hk => by simp at hk ⊢; omega⟩
theorem low_above {α : Type} {f : α → Int} {l : List α} (hs : Split f l) {k : Nat} (hk : k < l.length) (h : lowF f l ≤ k) : 0 ≤ f l[k] := by
  have h2 := low_spec (f := f) (l := l)
  by_cases e : lowF f l = k
  · subst e; exact h2.2 hk
  · rcases Int.lt_or_le (f l[k]) 0 with h3 | h3
    · have := hs (lowF f l) k hk (by omega) h3
      have := h2.2 (by omega); omega
    · exact h3
/-- the least one: the first of the least -/
def minTo {α : Type} [Inhabited α] (f : α → α → Int) (l : List α) : Nat → α
  | 0 => l.getD 0 default
  | i + 1 => if f (l.getD (i + 1) default) (minTo f l i) < 0 then l.getD (i + 1) default else minTo f l i
def minF {α : Type} [Inhabited α] (f : α → α → Int) (l : List α) : α := minTo f l (l.length - 1)
theorem half_eq {i j : Int} (h0 : 0 ≤ i) (h1 : i ≤ j) (h2 : j ≤ 140737488355328) : IntKind.i64.wrap ((shrU (toU (i + j)) 1).toNat : Int) = (i + j) / 2 := by
  have e : (toU (i + j)).toNat = (i + j).toNat := by
    have := wrapU_int (i + j)
    have h3 := wrapU_lt (m := (i + j).toNat) (by omega)
    rw [show (((i + j).toNat : Nat) : Int) = i + j by omega] at h3
    omega
  have e2 : (shrU (toU (i + j)) 1).toNat = (i + j).toNat / 2 := by rw [shrU_toNat, e]; rfl
  rw [e2, wrap_i64 (by omega)]; omega
namespace Exp
def le_ (l : List DEntry) : Prop := l.Pairwise fun a b => a.key < b.key
theorem sorted_at {l : List DEntry} (h : le_ l) {i j : Nat} (hi : i < l.length) (hj : j < l.length) (hlt : i < j) : l[i].key < l[j].key := List.pairwise_iff_getElem.1 h i j hi hj hlt
theorem same_at {l : List DEntry} (h : le_ l) {x y : DEntry} (hx : x ∈ l) (hy : y ∈ l) (e : x.key = y.key) : x = y := by
  obtain ⟨i, hi, rfl⟩ := List.getElem_of_mem hx
  obtain ⟨j, hj, rfl⟩ := List.getElem_of_mem hy
  rcases Nat.lt_trichotomy i j with h1 | h1 | h1
  · have := sorted_at h hi hj h1; omega
  · subst h1; rfl
  · have := sorted_at h hj hi h1; omega
theorem split_key {l : List DEntry} (h : le_ l) (key : Int) : Split (fun x : DEntry => cmpI x.key key) l := by
  intro a b hb hlt hn
  simp only [cmpI_neg] at hn ⊢
  have := sorted_at h (show a < l.length by omega) hb hlt; omega
abbrev findAt (l : List DEntry) (key : Int) : Nat := lowF (fun x : DEntry => cmpI x.key key) l
abbrev findIs (l : List DEntry) (key : Int) : Bool := hitF (fun x : DEntry => cmpI x.key key) l
theorem findAt_le (l : List DEntry) (key : Int) : findAt l key ≤ l.length := lowF_le _ _
theorem find_below {l : List DEntry} {key : Int} {k : Nat} (hk : k < l.length) (h : k < findAt l key) : l[k].key < key := cmpI_neg.1 ((low_spec (f := fun x : DEntry => cmpI x.key key)).1 k hk h)
theorem find_above {l : List DEntry} (hs : le_ l) {key : Int} {k : Nat} (hk : k < l.length) (h : findAt l key ≤ k) : key ≤ l[k].key := by
  have := low_above (split_key hs key) hk h
  rcases Int.lt_or_le l[k].key key with h2 | h2
  · have := cmpI_neg.2 h2; omega
  · exact h2
theorem findIs_iff {l : List DEntry} {key : Int} : findIs l key = true ↔ ∃ h : findAt l key < l.length, l[findAt l key].key = key := by
  simp only [findIs, hitF, Bool.and_eq_true, decide_eq_true_eq, beq_iff_eq, cmpI_zero]
  constructor
  · rintro ⟨h1, h2⟩
    have h3 : findAt l key < l.length := Int.ofNat_lt.1 h1
    exact ⟨h3, by rw [getd_at h3 default]; exact h2⟩
  · rintro ⟨h1, h2⟩
    exact ⟨Int.ofNat_lt.2 h1, by rw [← getd_at h1 default]; exact h2⟩
theorem findIs_no {l : List DEntry} (hs : le_ l) {key : Int} (h : findIs l key = false) : ∀ x ∈ l, x.key ≠ key := by
  intro x hx e
  obtain ⟨i, hi, rfl⟩ := List.getElem_of_mem hx
  have h1 : ¬ findIs l key = true := by simp [h]
  apply h1
  rw [findIs_iff]
  have h2 : findAt l key ≤ i := by
    rcases Nat.lt_or_ge i (findAt l key) with h3 | h3
    · have := find_below hi h3; omega
    · exact h3
  have h3 := find_above hs (show findAt l key < l.length by omega) (Nat.le_refl _)
  refine ⟨by omega, ?_⟩
  rcases Nat.eq_or_lt_of_le h2 with h4 | h4
  · simp only [h4]; exact e
  · have := sorted_at hs (show findAt l key < l.length by omega) hi h4; omega
theorem live_sorted {l : List DEntry} (h : le_ l) (now : Int) : le_ (live now l) := List.Pairwise.filter _ h
theorem mem_live {l : List DEntry} {now : Int} {x : DEntry} : x ∈ live now l ↔ x ∈ l ∧ now < x.till := by simp [live]
theorem getGo_some {l : List DEntry} (hs : le_ l) {now : Int} {x : DEntry} (hx : x ∈ l) (ht : now < x.till) : getGo l x.key now = (x.value, true) := by
  unfold getGo
  cases e : (live now l).find? (fun y => y.key == x.key) with
  | none =>
    have := List.find?_eq_none.1 e x (mem_live.2 ⟨hx, ht⟩)
    simp at this
  | some y =>
    have h1 := List.mem_of_find?_eq_some e
    have h2 := List.find?_some e
    have := same_at hs (mem_live.1 h1).1 hx (by simpa using h2)
    subst this; rfl
theorem getGo_none {l : List DEntry} {key now : Int} (h : ∀ x ∈ l, x.key = key → x.till ≤ now) : getGo l key now = (0, false) := by
  unfold getGo
  have : (live now l).find? (fun y => y.key == key) = none := by
    rw [List.find?_eq_none]; intro x hx
    have h1 := mem_live.1 hx
    simp only [beq_iff_eq]; intro e
    have := h x h1.1 e; omega
  rw [this]
theorem getGo_same {l m : List DEntry} (hl : le_ l) (hm : le_ m) {key now : Int} (h : ∀ x, x.key = key → now < x.till → (x ∈ l ↔ x ∈ m)) : getGo l key now = getGo m key now := by
  by_cases e : ∃ x ∈ l, x.key = key ∧ now < x.till
  · obtain ⟨x, hx, rfl, ht⟩ := e
    rw [getGo_some hl hx ht, getGo_some hm ((h x rfl ht).1 hx) ht]
  · rw [getGo_none (l := l) fun x hx hk => ?_, getGo_none (l := m) fun x hx hk => ?_]
    · rcases Int.lt_or_le now x.till with h1 | h1
      · exact absurd ⟨x, (h x hk h1).2 hx, hk, h1⟩ e
      · exact h1
    · rcases Int.lt_or_le now x.till with h1 | h1
      · exact absurd ⟨x, hx, hk, h1⟩ e
      · exact h1
/- Check -/
theorem entry_bad {x : DEntry} (h : ((Lru.okKey x.key = false ∨ okValue x.value = false) ∨ x.till < 0) ∨ 1100585369600 < x.till) : okEntry x = false := by
  by_cases e : okEntry x = true
  · have := okEntry_iff.1 e
    simp [Lru.okKey, okValue] at h; omega
  · simpa using e
theorem entry_fine {x : DEntry} (h : ((Lru.okKey x.key = true ∧ okValue x.value = true) ∧ 0 ≤ x.till) ∧ x.till ≤ 1100585369600) : okEntry x = true := by
  rw [okEntry_iff]; simp [Lru.okKey, okValue] at h; omega
structure CkI (l : List DEntry) (last : Int) (k : Nat) : Prop where
  le : k ≤ l.length
  go : checkGo last (l.drop k) = checkGo (-1) l
theorem CkI.start (l : List DEntry) : CkI l (-1) 0 := ⟨Nat.zero_le _, rfl⟩
theorem CkI.step {l : List DEntry} {last : Int} {k : Nat} (h : CkI l last k) (hk : k < l.length) : checkGo (-1) l = if okEntry l[k] = false then 3 else if l[k].key ≤ last then 4 else checkGo l[k].key (l.drop (k + 1)) := by
  rw [← h.go, List.drop_eq_getElem_cons hk, checkGo]
theorem CkI.bad {l : List DEntry} {last : Int} {k : Nat} (h : CkI l last k) (hk : k < l.length) (hb : okEntry l[k] = false) : 3 = checkGo (-1) l := by rw [h.step hk, if_pos hb]
theorem CkI.low {l : List DEntry} {last : Int} {k : Nat} (h : CkI l last k) (hk : k < l.length) (hb : okEntry l[k] = true) (h2 : l[k].key ≤ last) : 4 = checkGo (-1) l := by rw [h.step hk, if_neg (by simp [hb]), if_pos h2]
theorem CkI.next {l : List DEntry} {last : Int} {k : Nat} (h : CkI l last k) (hk : k < l.length) (hb : okEntry l[k] = true) (h2 : last < l[k].key) : CkI l l[k].key (k + 1) :=
  ⟨by omega, by have := h.step hk; rw [if_neg (by simp [hb]), if_neg (by omega)] at this; exact this.symm⟩
theorem CkI.done {l : List DEntry} {last : Int} {k : Nat} (h : CkI l last k) (hk : (l.length : Int) ≤ k) : 0 = checkGo (-1) l := by rw [← h.go, List.drop_of_length_le (by omega)]; rfl
theorem chk1 {s : DStore} (h : s.life < 1 ∨ 1073741824 < s.life) : 3 = check s := by unfold check; rw [if_pos h]
theorem chk2 {s : DStore} (h : 1 ≤ s.life ∧ s.life ≤ 1073741824) (h2 : 40 < (s.entries.length : Int)) : 2 = check s := by unfold check; rw [if_neg (by omega), if_pos (by omega)]
theorem chk3 {s : DStore} {e : Int} (h : 1 ≤ s.life ∧ s.life ≤ 1073741824) (h2 : (s.entries.length : Int) ≤ 40) (h3 : e = checkGo (-1) s.entries) : e = check s := by unfold check; rw [if_neg (by omega), if_neg (by omega)]; exact h3
/-- the key ahead (the reference) -/
def lastOf (l : List DEntry) (i : Nat) : Int := if i = 0 then -1 else (l.getD (i - 1) default).key
theorem CkI.refLow {l : List DEntry} {i j : Nat} (h : CkI l (lastOf l i) i) (hi : i < l.length) (hb : okEntry l[i] = true) (h0 : 0 < i) (hj : j = i - 1) (hjl : j < l.length) (h2 : l[i].key ≤ l[j].key) : 4 = checkGo (-1) l := by
  refine h.low hi hb ?_
  subst hj; rw [lastOf, if_neg (by omega), ← getd_at hjl default]; exact h2
theorem CkI.refNext {l : List DEntry} {i j : Nat} (h : CkI l (lastOf l i) i) (hi : i < l.length) (hb : okEntry l[i] = true) (hj : j = i - 1) (hjl : j < l.length) (h2 : i = 0 ∨ l[j].key < l[i].key) : CkI l (lastOf l (i + 1)) (i + 1) := by
  have e : lastOf l (i + 1) = l[i].key := by rw [lastOf, if_neg (by omega), Nat.add_sub_cancel, ← getd_at hi default]
  rw [e]
  refine h.next hi hb ?_
  rw [lastOf]; split
  · have := (okEntry_iff.1 hb).1; omega
  · subst hj; rw [← getd_at hjl default]; omega
theorem ref_bad {x : DEntry} (h : (Ref.between x.key 0 1048576 = false ∨ Ref.between x.value (-1099511627776) 1099511627776 = false) ∨ Ref.between x.till 0 1100585369600 = false) : okEntry x = false := by
  by_cases e : okEntry x = true
  · have := okEntry_iff.1 e
    simp [Ref.between] at h; omega
  · simpa using e
theorem ref_fine {x : DEntry} (h : (Ref.between x.key 0 1048576 = true ∧ Ref.between x.value (-1099511627776) 1099511627776 = true) ∧ Ref.between x.till 0 1100585369600 = true) : okEntry x = true := by
  rw [okEntry_iff]; simp [Ref.between] at h; omega
/- sweeping -/
structure SwI (s : DStore) (now : Int) (o : DStore) (gone : List Int) (k : Nat) : Prop where
  le : k ≤ s.entries.length
  life : o.life = s.life
  out : o.entries = live now (s.entries.take k)
  gone_ : gone = over now (s.entries.take k)
theorem SwI.start (s : DStore) (now : Int) : SwI s now ⟨s.life, []⟩ [] 0 := ⟨Nat.zero_le _, rfl, rfl, rfl⟩
theorem SwI.lens {s o : DStore} {now : Int} {gone : List Int} {k : Nat} (h : SwI s now o gone k) : o.entries.length ≤ k ∧ gone.length ≤ k := by
  rw [h.out, h.gone_, live, over, List.length_map]
  have h1 := List.length_filter_le (fun x : DEntry => decide (now < x.till)) (s.entries.take k)
  have h2 := List.length_filter_le (fun x : DEntry => decide (x.till ≤ now)) (s.entries.take k)
  rw [List.length_take] at h1 h2; omega
theorem SwI.keep {s o : DStore} {now : Int} {gone : List Int} {k : Nat} (h : SwI s now o gone k) (hk : k < s.entries.length) (ht : now < s.entries[k].till) : SwI s now ⟨o.life, o.entries ++ [s.entries[k]]⟩ gone (k + 1) := by
  refine ⟨by omega, h.life, ?_, ?_⟩
  · rw [List.take_succ_eq_append_getElem hk, live, List.filter_append, h.out, live]; simp [ht]
  · rw [List.take_succ_eq_append_getElem hk, over, List.filter_append, List.map_append, h.gone_, over]; simp; omega
theorem SwI.drop {s o : DStore} {now : Int} {gone : List Int} {k : Nat} (h : SwI s now o gone k) (hk : k < s.entries.length) (ht : s.entries[k].till ≤ now) : SwI s now o (gone ++ [s.entries[k].key]) (k + 1) := by
  refine ⟨by omega, h.life, ?_, ?_⟩
  · rw [List.take_succ_eq_append_getElem hk, live, List.filter_append, h.out, live]; simp; omega
  · rw [List.take_succ_eq_append_getElem hk, over, List.filter_append, List.map_append, h.gone_, over]; simp [ht]
theorem store_eq {a : DStore} {n : Int} {l : List DEntry} (h : a.life = n) (h2 : a.entries = l) : a = ⟨n, l⟩ := by cases a; simp_all
theorem SwI.done {s o : DStore} {now : Int} {gone : List Int} {k : Nat} (h : SwI s now o gone k) (hk : (s.entries.length : Int) ≤ k) : o = ⟨s.life, live now s.entries⟩ ∧ gone = over now s.entries := by
  have e : s.entries.take k = s.entries := List.take_of_length_le (by omega)
  refine ⟨store_eq h.life (by rw [h.out, e]), by rw [h.gone_, e]⟩
/- errors -/
theorem now_cases (s : DStore) (now : Int) : (check s ≠ 0 ∧ nowErr s now = check s) ∨ (check s = 0 ∧ okNow now = false ∧ nowErr s now = 3) ∨ (check s = 0 ∧ okNow now = true ∧ nowErr s now = 0) := by
  unfold nowErr
  by_cases h : check s = 0
  · rw [if_pos h]
    by_cases h2 : okNow now = true
    · exact .inr (.inr ⟨h, h2, if_pos h2⟩)
    · exact .inr (.inl ⟨h, by simpa using h2, if_neg h2⟩)
  · exact .inl ⟨h, if_neg h⟩
theorem now_ok {s : DStore} {now : Int} (h : nowErr s now = 0) : Ok s ∧ 0 ≤ now ∧ now ≤ 1099511627776 := by
  rcases now_cases s now with ⟨a, b⟩ | ⟨a, b, d⟩ | ⟨a, b, d⟩
  · exact absurd (b.symm.trans h) a
  · rw [h] at d; exact absurd d (by decide)
  · simp [okNow] at b; exact ⟨check_ok.1 a, b.1, b.2⟩
theorem get_ok {s : DStore} {key now : Int} (h : getErr s key now = 0) : nowErr s now = 0 ∧ Lru.okKey key = true := by
  unfold getErr at h
  split at h
  · rename_i h1; split at h
    · rename_i h2; exact ⟨h1, h2⟩
    · exact absurd h (by decide)
  · rename_i h1; exact absurd h h1
theorem put_ok {s : DStore} {key n now : Int} (h : putErr s key n now = 0) : getErr s key now = 0 ∧ okValue n = true ∧ (putGo (live now s.entries) ⟨key, n, now + s.life⟩).length ≤ 40 := by
  unfold putErr at h
  split at h
  · rename_i h1; split at h
    · rename_i h2; split at h
      · exact absurd h (by decide)
      · exact ⟨h1, h2, by omega⟩
    · exact absurd h (by decide)
  · rename_i h1; exact absurd h h1
theorem sweep1 {s : DStore} {now : Int} (h : nowErr s now ≠ 0) : sweep s now = (zero, []) := if_neg h
theorem sweep2 {s : DStore} {now : Int} (h : nowErr s now = 0) : sweep s now = (⟨s.life, live now s.entries⟩, over now s.entries) := if_pos h
/- getting -/
theorem got {l : List DEntry} (hs : le_ l) {key now : Int} (h1 : findIs l key = true) (hl : findAt l key < l.length) (ht : now < l[findAt l key].till) : getGo l key now = (l[findAt l key].value, true) := by
  obtain ⟨h2, e⟩ := findIs_iff.1 h1
  have := getGo_some hs (List.getElem_mem hl) ht
  rw [e] at this; exact this
theorem got_no {l : List DEntry} (hs : le_ l) {key now : Int} (h : findIs l key = false ∨ ∀ hl : findAt l key < l.length, l[findAt l key].till ≤ now) : getGo l key now = (0, false) := by
  by_cases h1 : findIs l key = true
  · obtain ⟨h2, e⟩ := findIs_iff.1 h1
    have h3 := (h.resolve_left (by simp [h1])) h2
    refine getGo_none fun x hx hk => ?_
    have := same_at hs hx (List.getElem_mem h2) (by rw [hk, e])
    rw [this]; exact h3
  · exact getGo_none fun x hx hk => absurd hk (findIs_no hs (by simpa using h1) x hx)
theorem get1 {s : DStore} {key now : Int} (h : getErr s key now ≠ 0) : get s key now = (0, false) := if_neg h
theorem get2 {s : DStore} {key now : Int} (h : getErr s key now = 0) : get s key now = getGo s.entries key now := if_pos h
/- storing -/
theorem below_take {l : List DEntry} (hs : le_ l) (key : Int) : l.filter (fun y => decide (y.key < key)) = l.take (findAt l key) := by
  conv => lhs; rw [← List.take_append_drop (findAt l key) l, List.filter_append]
  have h1 : (l.take (findAt l key)).filter (fun y => decide (y.key < key)) = l.take (findAt l key) := by
    rw [List.filter_eq_self]; intro x hx
    obtain ⟨i, hi, rfl⟩ := List.getElem_of_mem hx
    rw [List.length_take] at hi; rw [List.getElem_take]
    exact decide_eq_true (find_below (by omega) (by omega))
  have h2 : (l.drop (findAt l key)).filter (fun y => decide (y.key < key)) = [] := by
    rw [List.filter_eq_nil_iff]; intro x hx
    obtain ⟨i, hi, rfl⟩ := List.getElem_of_mem hx
    rw [List.length_drop] at hi; rw [List.getElem_drop]
    have := find_above hs (key := key) (show findAt l key + i < l.length by omega) (by omega)
    simp; omega
  rw [h1, h2, List.append_nil]
theorem above_drop {l : List DEntry} (hs : le_ l) (key : Int) : l.filter (fun y => decide (key < y.key)) = l.drop (findAt l key + (if findIs l key = true then 1 else 0)) := by
  have hle := findAt_le l key
  generalize hn : findAt l key + (if findIs l key = true then 1 else 0) = n
  have hcase : (findIs l key = true ∧ n = findAt l key + 1) ∨ (findIs l key = false ∧ n = findAt l key) := by
    cases h : findIs l key
    · right; rw [h] at hn; exact ⟨rfl, by simpa using hn.symm⟩
    · left; rw [h] at hn; exact ⟨rfl, by simpa using hn.symm⟩
  conv => lhs; rw [← List.take_append_drop n l, List.filter_append]
  have h1 : (l.take n).filter (fun y => decide (key < y.key)) = [] := by
    rw [List.filter_eq_nil_iff]; intro x hx
    obtain ⟨i, hi, rfl⟩ := List.getElem_of_mem hx
    rw [List.length_take] at hi; rw [List.getElem_take]
    simp only [decide_eq_true_eq]
    by_cases h : i < findAt l key
    · have := find_below (show i < l.length by omega) h; omega
    · rcases hcase with ⟨h2, h3⟩ | ⟨h2, h3⟩
      · obtain ⟨h4, e⟩ := findIs_iff.1 h2
        have : i = findAt l key := by omega
        subst this; omega
      · omega
  have h2 : (l.drop n).filter (fun y => decide (key < y.key)) = l.drop n := by
    rw [List.filter_eq_self]; intro x hx
    obtain ⟨i, hi, rfl⟩ := List.getElem_of_mem hx
    rw [List.length_drop] at hi; rw [List.getElem_drop]
    apply decide_eq_true
    rcases hcase with ⟨h2, h3⟩ | ⟨h2, h3⟩
    · obtain ⟨h4, e⟩ := findIs_iff.1 h2
      have := sorted_at hs h4 (show n + i < l.length by omega) (by omega); omega
    · have h5 := find_above hs (key := key) (show n + i < l.length by omega) (by omega)
      have h6 := findIs_no hs h2 _ (List.getElem_mem (show n + i < l.length by omega)); omega
  rw [h1, h2, List.nil_append]
theorem put_is {l : List DEntry} (hs : le_ l) {x : DEntry} (h : findIs l x.key = true) : l.set (findAt l x.key) x = putGo l x := by
  obtain ⟨h1, _⟩ := findIs_iff.1 h
  rw [putGo, below_take hs, above_drop hs, if_pos h, List.set_eq_take_append_cons_drop, if_pos h1]
theorem put_not {l : List DEntry} (hs : le_ l) {x : DEntry} (h : findIs l x.key = false) : l.take (findAt l x.key) ++ [x] ++ l.drop (findAt l x.key) = putGo l x := by
  rw [putGo, below_take hs, above_drop hs, if_neg (by simp [h]), List.append_assoc]; rfl
theorem putGo_len {l : List DEntry} (hs : le_ l) (x : DEntry) : (putGo l x).length = if findIs l x.key = true then l.length else l.length + 1 := by
  cases h : findIs l x.key
  · rw [← put_not hs h]
    have := findAt_le l x.key
    simp; omega
  · rw [← put_is hs h]; simp
theorem mem_put {l : List DEntry} {x y : DEntry} : y ∈ putGo l x ↔ y = x ∨ (y ∈ l ∧ y.key ≠ x.key) := by
  simp only [putGo, List.mem_append, List.mem_cons, List.mem_filter, decide_eq_true_eq]
  constructor
  · rintro (⟨h1, h2⟩ | h | ⟨h1, h2⟩)
    · exact .inr ⟨h1, by omega⟩
    · exact .inl h
    · exact .inr ⟨h1, by omega⟩
  · rintro (h | ⟨h1, h2⟩)
    · exact .inr (.inl h)
    · rcases Int.lt_or_gt_of_ne h2 with h3 | h3
      · exact .inl ⟨h1, h3⟩
      · exact .inr (.inr ⟨h1, h3⟩)
theorem put_sorted {l : List DEntry} (hs : le_ l) (x : DEntry) : le_ (putGo l x) := by
  unfold le_ putGo
  rw [List.pairwise_append]
  refine ⟨List.Pairwise.filter _ hs, ?_, ?_⟩
  · rw [List.pairwise_cons]
    exact ⟨fun y hy => by simpa using (List.mem_filter.1 hy).2, List.Pairwise.filter _ hs⟩
  · intro a ha b hb
    have h1 := (List.mem_filter.1 ha).2
    simp only [decide_eq_true_eq] at h1
    rcases List.mem_cons.1 hb with rfl | hb
    · exact h1
    · have h2 := (List.mem_filter.1 hb).2
      simp only [decide_eq_true_eq] at h2; omega
end Exp
end Go.Sx
namespace Go.Sx
theorem hit_eq {α : Type} [Inhabited α] {f : α → Int} {l : List α} {i : Int} (h : i = (lowF f l : Int)) : (decide (i < (l.length : Int)) && (f (l.getD i.toNat default) == 0)) = hitF f l := by subst h; rfl
theorem min_yes {α : Type} [Inhabited α] {f : α → α → Int} {l : List α} {m : α} {i : Nat} (h : m = minTo f l (i - 1)) (h1 : 1 ≤ i) (hlt : f (l.getD i default) m < 0) : l.getD i default = minTo f l (i + 1 - 1) := by
  obtain ⟨j, rfl⟩ := Nat.exists_eq_add_of_le' h1
  rw [Nat.add_sub_cancel] at h ⊢
  rw [minTo, if_pos (by rw [← h]; exact hlt)]
theorem min_no {α : Type} [Inhabited α] {f : α → α → Int} {l : List α} {m : α} {i : Nat} (h : m = minTo f l (i - 1)) (h1 : 1 ≤ i) (hlt : 0 ≤ f (l.getD i default) m) : m = minTo f l (i + 1 - 1) := by
  obtain ⟨j, rfl⟩ := Nat.exists_eq_add_of_le' h1
  rw [Nat.add_sub_cancel] at h ⊢
  rw [minTo, if_neg (by rw [← h]; omega), h]
theorem min_done {α : Type} [Inhabited α] {f : α → α → Int} {l : List α} {m : α} {i : Nat} (h : m = minTo f l (i - 1)) (h1 : (l.length : Int) ≤ i) (h2 : i ≤ l.length) : m = minF f l := by
  rw [h, minF, show i = l.length by omega]
end Go.Sx

/- Lists of numbers sorted and cleared of doublets in place: the kit's contracts over the entries here. -/
namespace Go.Sx
open Go.RowKit Go.Sort
def sortL (l : List Int) : List Int := l.mergeSort (fun x y => decide (x ≤ y))
theorem sortL_len (l : List Int) : (sortL l).length = l.length := by simp [sortL]
theorem sortL_perm (l : List Int) : (sortL l).Perm l := List.mergeSort_perm l _
section
variable {w0 w : World} {H : List Ent} {S : Nat → Prop} {cap i blk off : Nat} {L : List Int}
theorem own_holds (hw : HeapIs w0 H w) (hi : H[i]? = some (own tInt S (some ⟨blk, off, none⟩) cap L)) : Holds (Value.int .i64) w blk off L.toArray ∧ blk < w.heap.size ∧ L.length ≤ cap ∧ L.length ≤ 140737488355328 := by
  obtain ⟨h1, h2, h3, h4, ⟨c, ty, h5, h6⟩, h7⟩ := (hw.at hi).here
  refine ⟨fun j hj => ?_, (Array.getElem?_eq_some_iff.1 h5).1, h1, h2⟩
  have hj' : j < L.length := by simpa using hj
  have hc := h7 j hj' 0 (by decide)
  have e : off + j * tInt.k + 0 = off + j := by show off + j * 1 + 0 = _; omega
  constructor
  · have hc' : w.cell? ⟨blk, off + j, none⟩ = (tInt.enc L[j])[0]? := by rw [← e]; exact hc
    rw [hc']
    show some (Value.int .i64 L[j]) = some (Value.int .i64 (L.toArray[j]!))
    rw [getElem!_pos L.toArray j (by simpa using hj)]; simp
  · simp [World.frozen?, h5]
theorem own_put (hw : HeapIs w0 H w) (hi : H[i]? = some (own tInt S (some ⟨blk, off, none⟩) cap L)) {M : List Int} (hM : M.length = L.length) {k : Nat} (hk : k ≤ M.length) (q : Nat) (os : Array Obj) :
    HeapIs w0 (H.set i (own tInt S (some ⟨blk, off, none⟩) cap (M.take k))) (grow (putRow (Value.int .i64) (Sort.ahead w q) blk off M.toArray) os) := by
  obtain ⟨h1, h2, h3, h4, ⟨c, ty, h5, h6⟩, h7⟩ := (hw.at hi).here
  have hlt : blk < w.heap.size := (Array.getElem?_eq_some_iff.1 h5).1
  have hheap : (grow (putRow (Value.int .i64) (Sort.ahead w q) blk off M.toArray) os).heap = w.heap.modify blk (onCells (putCells (Value.int .i64) off M.toArray)) ++ os := rfl
  have hother : ∀ b, b < w.heap.size → b ≠ blk → (grow (putRow (Value.int .i64) (Sort.ahead w q) blk off M.toArray) os).heap[b]? = w.heap[b]? := fun b hb hne => by
    rw [hheap, Array.getElem?_append_left (by simpa using hb), Array.getElem?_modify, if_neg (fun e => hne e.symm)]
  have hblk : (grow (putRow (Value.int .i64) (Sort.ahead w q) blk off M.toArray) os).heap[blk]? = some (.cells (putCells (Value.int .i64) off M.toArray c) ty (0, 0)) := by
    rw [hheap, Array.getElem?_append_left (by simpa using hlt), Array.getElem?_modify, if_pos rfl, h5]; rfl
  refine hw.change hi ⟨rfl, rfl, rfl⟩ (by rw [hheap]; simp) (fun b hb => .inl hb) (fun b hb hS => hother b hb (fun e => hS (e ▸ h4))) (fun w1 w2 ha hA => by have hA' : SlO tInt S w1 (some ⟨blk, off, none⟩) cap (M.take k) := hA; exact SlO.agree (T := tInt) (S := S) ha hA') ?_
  have hsz : off + cap * 1 ≤ c.size := h6
  refine ⟨by rw [List.length_take]; omega, by rw [List.length_take]; omega, h3, h4, ⟨_, ty, hblk, ?_⟩, ?_⟩
  · show off + cap * 1 ≤ _
    simp only [putCells, Array.size_mapIdx]; exact hsz
  · intro j hj a ha
    have ha0 : a = 0 := by have : a < 1 := ha; omega
    subst ha0
    have hjM : j < M.length := by rw [List.length_take] at hj; omega
    have e : off + j * tInt.k + 0 = off + j := by show off + j * 1 + 0 = _; omega
    rw [e]
    have hb : off + j < c.size := by omega
    have hc : (putCells (Value.int .i64) off M.toArray c)[off + j]? = some (Value.int .i64 M[j]) := by
      simp only [putCells, Array.getElem?_mapIdx, Array.getElem?_eq_getElem hb, Option.map_some]
      rw [if_pos ⟨by omega, by simp; omega⟩, show off + j - off = j by omega, getElem!_pos M.toArray j (by simpa using hjM)]; simp
    show World.cell? _ _ = some (Value.int .i64 (M.take k)[j])
    rw [List.getElem_take]
    simp only [World.cell?, hblk, hc]
    rfl
end
section
variable {P : Program} {f : FuncId} {S : Nat → Prop} {a : Option Addr} {cap : Nat} {l : List Int}
theorem fnX_sort (hS : ∀ (blk off cap : Nat) (zs : List Int) (w : World), Holds (Value.int .i64) w blk off zs.toArray → blk < w.heap.size → zs.length < 4611686018427387904 → Calls P f #[.slice (some ⟨blk, off, none⟩) zs.length cap] w fun e w' => e = .returned (.tuple #[]) ∧ ∃ n os, w' = grow (putRow (Value.int .i64) (Sort.ahead w n) blk off (zs.mergeSort fun x y => decide (x ≤ y)).toArray) os)
    (hN : ∀ (p : Option Addr) (cap : Nat) (w : World), Calls P f #[.slice p 0 cap] w fun e w' => e = .returned (.tuple #[]) ∧ w' = w) :
    FnX P f [.slice a l.length cap] [own tInt S a cap l] (fun _ => True) Unit (fun _ => .tuple #[]) (fun _ => [own tInt S a cap (sortL l)]) := by
  intro w hw _
  match a with
  | none =>
    obtain ⟨h1, h2, h3⟩ := (hw.at (i := 1) rfl).here
    have hl : l = [] := List.length_eq_zero_iff.1 (by have h3' : cap = 0 := h3; omega)
    subst hl
    have e0 : sortL [] = [] := by simp [sortL]
    refine (hN none cap w).mono ?_
    rintro e w' ⟨rfl, rfl⟩
    refine ⟨(), rfl, ?_⟩
    simp only [e0]; exact hw
  | some ⟨blk, off, sp⟩ =>
    obtain rfl : sp = none := (hw.at (i := 1) rfl).here.2.2.1
    obtain ⟨g1, g2, g3, g4⟩ := own_holds (i := 1) hw rfl
    refine (hS blk off cap l w g1 g2 (by omega)).mono ?_
    rintro e w' ⟨rfl, n, os, rfl⟩
    have h := own_put (i := 1) hw rfl (M := sortL l) (sortL_len l) (k := (sortL l).length) (Nat.le_refl _) n os
    rw [List.take_length] at h
    exact ⟨(), rfl, h⟩
def compactL (l : List Int) : List Int := Go.Lib.compact l
theorem fnX_compact (hlen : (compactL l).length ≤ l.length) (hC : ∀ (blk off cap : Nat) (zs : List Int) (w : World), Holds (Value.int .i64) w blk off zs.toArray → zs.length ≤ 9223372036854775807 → zs.length ≤ cap → Calls P f #[.slice (some ⟨blk, off, none⟩) zs.length cap] w fun e w' => e = .returned (.slice (some ⟨blk, off, none⟩) (Go.Lib.compact zs).length cap) ∧ ∃ q, w' = putRow (Value.int .i64) (Sort.ahead w q) blk off (Go.Lib.compact zs ++ List.replicate (zs.length - (Go.Lib.compact zs).length) 0).toArray)
    (hN : ∀ (p : Option Addr) (cap : Nat) (w : World), Calls P f #[.slice p 0 cap] w fun e w' => e = .returned (.slice p 0 cap) ∧ w' = w) :
    FnX P f [.slice a l.length cap] [own tInt S a cap l] (fun _ => True) ((Option Addr) × (Nat) × (Nat → Prop)) (fun p => .slice p.1 (compactL l).length p.2.1) (fun p => [own tInt p.2.2 p.1 p.2.1 (compactL l)]) := by
  intro w hw _
  match a with
  | none =>
    obtain ⟨h1, h2, h3⟩ := (hw.at (i := 1) rfl).here
    have hl : l = [] := List.length_eq_zero_iff.1 (by have h3' : cap = 0 := h3; omega)
    subst hl
    have e0 : compactL [] = [] := by simp [compactL, Go.Lib.compact, Go.Lib.compactUpTo]
    refine (hN none cap w).mono ?_
    rintro e w' ⟨rfl, rfl⟩
    refine ⟨(none, cap, S), by simp only [e0]; rfl, ?_⟩
    simp only [e0]; exact hw
  | some ⟨blk, off, sp⟩ =>
    obtain rfl : sp = none := (hw.at (i := 1) rfl).here.2.2.1
    obtain ⟨g1, g2, g3, g4⟩ := own_holds (i := 1) hw rfl
    refine (hC blk off cap l w g1 (by omega) g3).mono ?_
    rintro e w' ⟨rfl, q, rfl⟩
    have h := own_put (i := 1) hw rfl (M := compactL l ++ List.replicate (l.length - (compactL l).length) 0) (by simp; omega) (k := (compactL l).length) (by simp) q #[]
    rw [List.take_left] at h
    have e2 : grow (putRow (Value.int .i64) (Sort.ahead w q) blk off (compactL l ++ List.replicate (l.length - (compactL l).length) 0).toArray) #[] = putRow (Value.int .i64) (Sort.ahead w q) blk off (compactL l ++ List.replicate (l.length - (compactL l).length) 0).toArray := by
      unfold grow; simp only [Array.append_empty]
    rw [e2] at h
    exact ⟨(some ⟨blk, off, none⟩, cap, S), rfl, h⟩
end
end Go.Sx
namespace Go.Sx
theorem compactL_len (l : List Int) : (compactL l).length ≤ l.length := by
  unfold compactL Go.Lib.compact Go.Lib.compactUpTo
  rw [List.length_map]
  exact Nat.le_trans (List.length_filter_le _ _) (by simp)
end Go.Sx

/- Bloom filters: the plain functions. -/
namespace Go.Sx
structure DFilter where
  size : Int
  hashes : Int
  set : List Int
deriving DecidableEq
/-- a filter as an element of a list -/
structure FHdr where
  size : Int
  hashes : Int
  a : Option Addr
  cap : Nat
  L : List Int
instance : Inhabited FHdr := ⟨⟨0, 0, none, 0, []⟩⟩
def tFHdr : Ty FHdr := ⟨3, fun h => [.int .i64 h.size, .int .i64 h.hashes, .slice h.a h.L.length h.cap], fun _ => rfl⟩
namespace Bl
/-! ### lists that rise -/
def insU (x : Int) : List Int → List Int
  | [] => [x]
  | y :: l => if x < y then x :: y :: l else if x = y then y :: l else y :: insU x l
def once (l : List Int) : List Int := l.foldr insU []
def Up (l : List Int) : Prop := l.Pairwise (· < ·)
theorem insU_mem {x z : Int} : ∀ {l : List Int}, z ∈ insU x l ↔ z = x ∨ z ∈ l
  | [] => by simp [insU]
  | y :: l => by
    simp only [insU]
    split
    · simp
    · split
      · rename_i e; subst e; simp
      · simp only [List.mem_cons, insU_mem]
        constructor
        · rintro (h | h | h) <;> simp [h]
        · rintro (h | h | h) <;> simp [h]
theorem insU_up {x : Int} : ∀ {l : List Int}, Up l → Up (insU x l)
  | [], _ => by simp [insU, Up]
  | y :: l, h => by
    obtain ⟨h1, h2⟩ := List.pairwise_cons.1 h
    simp only [insU]
    split
    · rename_i hx
      refine List.pairwise_cons.2 ⟨fun z hz => ?_, h⟩
      rcases List.mem_cons.1 hz with e | e
      · omega
      · have := h1 z e; omega
    · split
      · exact h
      · refine List.pairwise_cons.2 ⟨fun z hz => ?_, insU_up h2⟩
        rcases insU_mem.1 hz with e | e
        · omega
        · exact h1 z e
theorem once_mem {z : Int} {l : List Int} : z ∈ once l ↔ z ∈ l := by
  induction l with
  | nil => simp [once]
  | cons x l ih =>
    show z ∈ insU x (once l) ↔ _
    rw [insU_mem, ih, List.mem_cons]
theorem once_up (l : List Int) : Up (once l) := by
  induction l with
  | nil => exact List.Pairwise.nil
  | cons x l ih => exact insU_up ih
/-- two lists that rise with the same elements are one -/
theorem up_eq : ∀ {l m : List Int}, Up l → Up m → (∀ x, x ∈ l ↔ x ∈ m) → l = m
  | [], [], _, _, _ => rfl
  | [], y :: m, _, _, h => absurd ((h y).2 (by simp)) (by simp)
  | x :: l, [], _, _, h => absurd ((h x).1 (by simp)) (by simp)
  | x :: l, y :: m, hl, hm, h => by
    have h1 := List.pairwise_cons.1 hl
    have h2 := List.pairwise_cons.1 hm
    have e : x = y := by
      rcases List.mem_cons.1 ((h x).1 (by simp)) with e | e
      · exact e
      · rcases List.mem_cons.1 ((h y).2 (by simp)) with e2 | e2
        · exact e2.symm
        · have := h1.1 y e2; have := h2.1 x e; omega
    subst e
    congr 1
    refine up_eq h1.2 h2.2 fun z => ⟨fun hz => ?_, fun hz => ?_⟩
    · rcases List.mem_cons.1 ((h z).1 (by simp [hz])) with e | e
      · subst e; have := h1.1 z hz; omega
      · exact e
    · rcases List.mem_cons.1 ((h z).2 (by simp [hz])) with e | e
      · subst e; have := h2.1 z hz; omega
      · exact e
theorem sortL_sorted (l : List Int) : (sortL l).Pairwise (· ≤ ·) := by
  have := List.pairwise_mergeSort (le := fun x y : Int => decide (x ≤ y)) (fun a b c h1 h2 => by simp at *; omega) (fun a b => by simp; omega) l
  exact this.imp fun h => by simpa using h
theorem compact_up {l : List Int} (h : l.Pairwise (· ≤ ·)) : Up (compactL l) ∧ ∀ x, x ∈ compactL l ↔ x ∈ l := by
  have hs := List.pairwise_iff_getElem.1 h
  have hat : ∀ j, j < l.length → l.toArray[j]! = l.getD j 0 := fun j hj => by
    rw [getElem!_pos l.toArray j (by simpa using hj), ← getd_at hj 0]; simp
  have hle : ∀ i j, i ≤ j → j < l.length → l.getD i 0 ≤ l.getD j 0 := fun i j h1 h2 => by
    rw [← getd_at (show i < l.length by omega) 0, ← getd_at h2 0]
    rcases Nat.eq_or_lt_of_le h1 with e | e
    · subst e; exact Int.le_refl _
    · exact hs i j _ _ e
  constructor
  · unfold compactL Go.Lib.compact Go.Lib.compactUpTo Up
    rw [List.pairwise_map, List.pairwise_filter]
    refine List.pairwise_lt_range.imp_of_mem fun {a b} ha hb hab _ hkb => ?_
    have hb' := List.mem_range.1 hb
    have hk : b = 0 ∨ l.toArray[b]! ≠ l.toArray[b - 1]! := by simpa [Go.Lib.keeps] using hkb
    rw [hat a (by omega), hat b hb']
    rcases hk with hk | hk
    · omega
    · rw [hat b hb', hat (b - 1) (by omega)] at hk
      have h1 := hle a (b - 1) (by omega) (by omega)
      have h2 := hle (b - 1) b (by omega) hb'
      omega
  · intro x
    unfold compactL Go.Lib.compact Go.Lib.compactUpTo
    rw [List.mem_map]
    constructor
    · rintro ⟨j, hj, rfl⟩
      have hj' := List.mem_range.1 (List.mem_filter.1 hj).1
      rw [hat j hj', ← getd_at hj' 0]; exact List.getElem_mem hj'
    · intro hx
      obtain ⟨j, hj, rfl⟩ := List.getElem_of_mem hx
      rw [getd_at hj 0]
      induction j with
      | zero => exact ⟨0, List.mem_filter.2 ⟨List.mem_range.2 hj, by simp [Go.Lib.keeps]⟩, hat 0 hj⟩
      | succ j ih =>
        by_cases e : l.getD (j + 1) 0 = l.getD j 0
        · rw [e]; exact ih (by omega) (List.getElem_mem (by omega))
        · refine ⟨j + 1, List.mem_filter.2 ⟨List.mem_range.2 hj, ?_⟩, hat _ hj⟩
          simp only [Go.Lib.keeps, decide_eq_true_eq]
          right
          rw [hat (j + 1) hj, show j + 1 - 1 = j by omega, hat j (by omega)]; exact e
theorem once_eq (l : List Int) : compactL (sortL l) = once l := by
  obtain ⟨h1, h2⟩ := compact_up (sortL_sorted l)
  exact up_eq h1 (once_up l) fun x => by rw [h2, once_mem, (sortL_perm l).mem_iff]
theorem once_len (l : List Int) : (once l).length ≤ l.length := by
  rw [← once_eq]; exact Nat.le_trans (compactL_len _) (Nat.le_of_eq (sortL_len l))
/-- how many numbers below a bound rise -/
theorem up_len {l : List Int} {n : Int} (h : Up l) (hb : ∀ x ∈ l, 0 ≤ x ∧ x < n) : (l.length : Int) ≤ n ∨ l = [] := by
  have key : ∀ (i : Nat) (hi : i < l.length), (i : Int) ≤ l[i] := by
    intro i
    induction i with
    | zero => intro hi; have := (hb _ (List.getElem_mem hi)).1; omega
    | succ i ih =>
      intro hi
      have h1 := ih (by omega)
      have h2 := List.pairwise_iff_getElem.1 h i (i + 1) (by omega) hi (by omega)
      have h3 : l[i] < l[i + 1] := h2
      omega
  match l, h, hb, key with
  | [], _, _, _ => exact .inr rfl
  | x :: r, _, hb, key =>
    left
    have h1 := key r.length (by simp)
    have h2 := (hb _ (List.getElem_mem (show r.length < (x :: r).length by simp))).2
    simp only [List.length_cons]; omega
/-! ### filters -/
def scan (size : Int) (last : Int) : List Int → Int
  | [] => 0
  | a :: l => if a < 0 ∨ size ≤ a then 3 else if a ≤ last then 4 else scan size a l
def check (f : DFilter) : Int := if ((f.size < 1 ∨ 1024 < f.size) ∨ f.hashes < 1) ∨ 8 < f.hashes then 3 else if f.size < (f.set.length : Int) then 2 else scan f.size (-1) f.set
structure Ok (f : DFilter) : Prop where
  size : 1 ≤ f.size ∧ f.size ≤ 1024
  hashes : 1 ≤ f.hashes ∧ f.hashes ≤ 8
  up : Up f.set
  bd : ∀ x ∈ f.set, 0 ≤ x ∧ x < f.size
theorem scan_ok {size : Int} : ∀ {l : List Int} {last : Int}, scan size last l = 0 ↔ (∀ x ∈ l, (0 ≤ x ∧ x < size) ∧ last < x) ∧ Up l
  | [], last => by simp [scan, Up]
  | a :: l, last => by
    rw [scan]
    split
    · rename_i h
      constructor
      · intro e; cases e
      · intro e; have := (e.1 a (by simp)).1; omega
    · rename_i h
      split
      · rename_i h2
        constructor
        · intro e; cases e
        · intro e; have := (e.1 a (by simp)).2; omega
      · rename_i h2
        rw [scan_ok]
        unfold Up
        rw [List.pairwise_cons]
        constructor
        · rintro ⟨h3, h4⟩
          refine ⟨fun x hx => ?_, fun x hx => (h3 x hx).2, h4⟩
          rcases List.mem_cons.1 hx with e | e
          · rw [e]; omega
          · have := h3 x e; omega
        · rintro ⟨h3, h4, h5⟩
          exact ⟨fun x hx => ⟨(h3 x (by simp [hx])).1, h4 x hx⟩, h5⟩
theorem check_ok {f : DFilter} : check f = 0 ↔ Ok f := by
  unfold check
  split
  · constructor
    · intro e; cases e
    · intro e; have := e.size; have := e.hashes; omega
  · rename_i h
    split
    · rename_i h2
      constructor
      · intro e; cases e
      · intro e
        rcases up_len e.up e.bd with h3 | h3
        · omega
        · rw [h3] at h2; have := e.size; simp at h2; omega
    · rw [scan_ok]
      constructor
      · rintro ⟨h3, h4⟩; exact ⟨by omega, by omega, h4, fun x hx => (h3 x hx).1⟩
      · intro e; exact ⟨fun x hx => ⟨e.bd x hx, by have := e.bd x hx; omega⟩, e.up⟩
theorem Ok.len {f : DFilter} (h : Ok f) : (f.set.length : Int) ≤ f.size := by
  rcases up_len h.up h.bd with h1 | h1
  · exact h1
  · rw [h1]; have := h.size; simp; omega
def zero : DFilter := ⟨0, 0, []⟩
def place (f : DFilter) (s : ByteArray) (i : Int) : Int := Hash.rawFold (Hash.salted s (toU i)) f.size
def places (f : DFilter) (s : ByteArray) : List Int := once ((List.range f.hashes.toNat).map fun i : Nat => place f s (i : Int))
def keyErr (f : DFilter) (s : ByteArray) : Int := if check f ≠ 0 then check f else Hash.sumErr s
def bits (f : DFilter) (s : ByteArray) : List Int := if keyErr f s = 0 then places f s else []
def add (f : DFilter) (s : ByteArray) : DFilter := if keyErr f s = 0 then ⟨f.size, f.hashes, once (f.set ++ places f s)⟩ else zero
def may (f : DFilter) (s : ByteArray) : Bool := if keyErr f s = 0 then !(places f s).any (fun x => !decide (x ∈ f.set)) else false
def uniErr (a b : DFilter) : Int := if check a ≠ 0 then check a else if check b ≠ 0 then check b else if a.size ≠ b.size ∨ a.hashes ≠ b.hashes then 7 else 0
def uni (a b : DFilter) : DFilter := if uniErr a b = 0 then ⟨a.size, a.hashes, once (a.set ++ b.set)⟩ else zero
def foldErr (f : DFilter) : Int := if check f ≠ 0 then check f else if f.size.tmod 2 ≠ 0 then 4 else 0
def fold (f : DFilter) : DFilter := if foldErr f = 0 then ⟨f.size.tdiv 2, f.hashes, once (f.set.map fun x => x.tdiv 2)⟩ else zero
end Bl
end Go.Sx

/- Bloom filters: the loops of the program. -/
namespace Go.Sx.Bl
structure CkI (f : DFilter) (last : Int) (k : Nat) : Prop where
  le : k ≤ f.set.length
  eq : scan f.size last (f.set.drop k) = scan f.size (-1) f.set
theorem CkI.start (f : DFilter) : CkI f (-1) 0 := ⟨Nat.zero_le _, rfl⟩
theorem scan_step {f : DFilter} {last : Int} {k : Nat} (h : k < f.set.length) : scan f.size last (f.set.drop k) = if f.set[k] < 0 ∨ f.size ≤ f.set[k] then 3 else if f.set[k] ≤ last then 4 else scan f.size f.set[k] (f.set.drop (k + 1)) := by
  rw [List.drop_eq_getElem_cons h, scan]
theorem chk1 {f : DFilter} (h : ((f.size < 1 ∨ 1024 < f.size) ∨ f.hashes < 1) ∨ 8 < f.hashes) : 3 = check f := (if_pos h).symm
theorem chk2 {f : DFilter} (h : ((1 ≤ f.size ∧ f.size ≤ 1024) ∧ 1 ≤ f.hashes) ∧ f.hashes ≤ 8) (h2 : f.size < (f.set.length : Int)) : 2 = check f := by unfold check; rw [if_neg (by omega), if_pos h2]
theorem chk3 {f : DFilter} (h : ((1 ≤ f.size ∧ f.size ≤ 1024) ∧ 1 ≤ f.hashes) ∧ f.hashes ≤ 8) (h2 : (f.set.length : Int) ≤ f.size) {e : Int} (he : e = scan f.size (-1) f.set) : e = check f := by unfold check; rw [if_neg (by omega), if_neg (by omega)]; exact he
theorem CkI.bad {f : DFilter} {last : Int} {k : Nat} (h : CkI f last k) (hk : k < f.set.length) (hb : f.set[k] < 0 ∨ f.size ≤ f.set[k]) : 3 = scan f.size (-1) f.set := by rw [← h.eq, scan_step hk, if_pos hb]
theorem CkI.low {f : DFilter} {last : Int} {k : Nat} (h : CkI f last k) (hk : k < f.set.length) (hb : 0 ≤ f.set[k] ∧ f.set[k] < f.size) (hl : f.set[k] ≤ last) : 4 = scan f.size (-1) f.set := by rw [← h.eq, scan_step hk, if_neg (by omega), if_pos hl]
theorem CkI.next {f : DFilter} {last : Int} {k : Nat} (h : CkI f last k) (hk : k < f.set.length) (hb : 0 ≤ f.set[k] ∧ f.set[k] < f.size) (hl : last < f.set[k]) : CkI f f.set[k] (k + 1) := ⟨hk, by rw [← h.eq, scan_step hk, if_neg (by omega), if_neg (by omega)]⟩
theorem CkI.done {f : DFilter} {last : Int} {k : Nat} (h : CkI f last k) (hk : f.set.length ≤ k) : 0 = scan f.size (-1) f.set := by rw [← h.eq, List.drop_of_length_le hk]; rfl
theorem ke1 {f : DFilter} (s : ByteArray) (h : check f ≠ 0) : check f = keyErr f s := (if_pos h).symm
theorem ke2 {f : DFilter} {s : ByteArray} (h : check f = 0) : Hash.sumErr s = keyErr f s := (if_neg (by simp [h])).symm
theorem key_ok {f : DFilter} {s : ByteArray} (h : keyErr f s = 0) : Ok f ∧ s.size ≤ 40 := by
  unfold keyErr at h
  split at h
  · rename_i h1; exact absurd h h1
  · rename_i h1; exact ⟨check_ok.1 (by simpa using h1), (Hash.sum_of h).2⟩
theorem key_of {f : DFilter} {s : ByteArray} (h : Ok f) (hs : s.size ≤ 40) : keyErr f s = 0 := by
  unfold keyErr; rw [if_neg (by simp [check_ok.2 h])]; unfold Hash.sumErr; rw [if_neg (by omega)]
theorem places_len (f : DFilter) (s : ByteArray) : (places f s).length ≤ f.hashes.toNat := by
  refine Nat.le_trans (once_len _) ?_; simp
theorem place_bd {f : DFilter} (h : Ok f) (s : ByteArray) (i : Int) : 0 ≤ place f s i ∧ place f s i < f.size := by
  have hs := h.size
  have e := Hash.rawFold_eq (Hash.salted s (toU i)) f.size.toNat (by omega)
  rw [show ((f.size.toNat : Nat) : Int) = f.size by omega] at e
  unfold place; rw [e]
  have h1 : (Hash.salted s (toU i)).toNat / 4294967296 < 4294967296 := by have := (Hash.salted s (toU i)).toNat_lt; omega
  have h2 : (Hash.salted s (toU i)).toNat / 4294967296 * f.size.toNat / 4294967296 < f.size.toNat := by
    rw [Nat.div_lt_iff_lt_mul (by decide)]
    rw [Nat.mul_comm f.size.toNat]
    exact Nat.mul_lt_mul_of_pos_right h1 (by omega)
  omega
theorem places_mem {f : DFilter} {s : ByteArray} {x : Int} : x ∈ places f s ↔ ∃ i : Nat, (i : Int) < f.hashes ∧ place f s i = x := by
  unfold places
  rw [once_mem, List.mem_map]
  constructor
  · rintro ⟨i, hi, rfl⟩; have := List.mem_range.1 hi; exact ⟨i, by omega, rfl⟩
  · rintro ⟨i, hi, rfl⟩; exact ⟨i, List.mem_range.2 (by omega), rfl⟩
theorem places_bd {f : DFilter} (h : Ok f) {s : ByteArray} {x : Int} (hx : x ∈ places f s) : 0 ≤ x ∧ x < f.size := by
  obtain ⟨i, _, rfl⟩ := places_mem.1 hx; exact place_bd h s _
theorem add_ok {f : DFilter} {s : ByteArray} (h : keyErr f s = 0) : add f s = ⟨f.size, f.hashes, once (f.set ++ places f s)⟩ := if_pos h
theorem add_bad {f : DFilter} {s : ByteArray} (h : keyErr f s ≠ 0) : add f s = zero := if_neg h
theorem bits_ok {f : DFilter} {s : ByteArray} (h : keyErr f s = 0) : bits f s = places f s := if_pos h
theorem bits_bad {f : DFilter} {s : ByteArray} (h : keyErr f s ≠ 0) : bits f s = [] := if_neg h
theorem may_ok {f : DFilter} {s : ByteArray} (h : keyErr f s = 0) : may f s = !(places f s).any (fun x => !decide (x ∈ f.set)) := if_pos h
theorem may_bad {f : DFilter} {s : ByteArray} (h : keyErr f s ≠ 0) : may f s = false := if_neg h
theorem ok_add {f : DFilter} {s : ByteArray} (h : keyErr f s = 0) : Ok (add f s) := by
  have ho := (key_ok h).1
  rw [add_ok h]
  refine ⟨ho.size, ho.hashes, once_up _, fun x hx => ?_⟩
  rcases List.mem_append.1 (once_mem.1 hx) with e | e
  · exact ho.bd x e
  · exact places_bd ho e
/-! ### the halving search -/
theorem split_up {l : List Int} (h : Up l) (t : Int) : Split (fun x : Int => cmpI x t) l := by
  intro a b hb hlt hn
  simp only [cmpI_neg] at hn ⊢
  have : l[a]'(by omega) < l[b] := List.pairwise_iff_getElem.1 h a b _ hb hlt
  omega
theorem hit_mem {l : List Int} (h : Up l) (t : Int) : hitF (fun x : Int => cmpI x t) l = decide (t ∈ l) := by
  have hsp := split_up h t
  rw [Bool.eq_iff_iff, decide_eq_true_eq]
  unfold hitF
  simp only [Bool.and_eq_true, decide_eq_true_eq, beq_iff_eq, cmpI_zero]
  constructor
  · rintro ⟨h1, h2⟩
    have h3 : lowF (fun x : Int => cmpI x t) l < l.length := Int.ofNat_lt.1 h1
    rw [← getd_at h3 default] at h2
    rw [← h2]; exact List.getElem_mem h3
  · intro hm
    obtain ⟨i, hi, e⟩ := List.getElem_of_mem hm
    have h1 : lowF (fun x : Int => cmpI x t) l ≤ i := by
      rcases Nat.lt_or_ge i (lowF (fun x : Int => cmpI x t) l) with h2 | h2
      · have := cmpI_neg.1 ((low_spec (f := fun x : Int => cmpI x t)).1 i hi h2); omega
      · exact h2
    have h3 : lowF (fun x : Int => cmpI x t) l < l.length := by omega
    have h4 := (low_spec (f := fun x : Int => cmpI x t) (l := l)).2 h3
    refine ⟨Int.ofNat_lt.2 h3, ?_⟩
    rw [← getd_at h3 default]
    have h5 : t ≤ l[lowF (fun x : Int => cmpI x t) l] := by
      rcases Int.lt_or_le l[lowF (fun x : Int => cmpI x t) l] t with h6 | h6
      · have := cmpI_neg.2 h6; omega
      · exact h6
    rcases Nat.eq_or_lt_of_le h1 with h6 | h6
    · simp only [h6]; exact e
    · have h7 : l[lowF (fun x : Int => cmpI x t) l] < l[i] := List.pairwise_iff_getElem.1 h _ i h3 hi h6
      omega
/-! ### unions -/
theorem ue1 {a b : DFilter} (h : check a ≠ 0) : uni a b = zero ∧ uniErr a b = check a := by
  have e : uniErr a b = check a := if_pos h
  exact ⟨if_neg (by rw [e]; exact h), e⟩
theorem ue2 {a b : DFilter} (h : check a = 0) (h2 : check b ≠ 0) : uni a b = zero ∧ uniErr a b = check b := by
  have e : uniErr a b = check b := by unfold uniErr; rw [if_neg (by simp [h]), if_pos h2]
  exact ⟨if_neg (by rw [e]; exact h2), e⟩
theorem ue3 {a b : DFilter} (h : check a = 0) (h2 : check b = 0) (h3 : ¬ a.size = b.size ∨ ¬ a.hashes = b.hashes) : uni a b = zero ∧ uniErr a b = 7 := by
  have e : uniErr a b = 7 := by unfold uniErr; rw [if_neg (by simp [h]), if_neg (by simp [h2]), if_pos h3]
  exact ⟨if_neg (by rw [e]; decide), e⟩
theorem ue4 {a b : DFilter} (h : check a = 0) (h2 : check b = 0) (h3 : a.size = b.size ∧ a.hashes = b.hashes) : uni a b = ⟨a.size, a.hashes, once (a.set ++ b.set)⟩ ∧ uniErr a b = 0 := by
  have e : uniErr a b = 0 := by unfold uniErr; rw [if_neg (by simp [h]), if_neg (by simp [h2]), if_neg (by omega)]
  exact ⟨if_pos e, e⟩
theorem uni_ok {a b : DFilter} (h : uniErr a b = 0) : Ok a ∧ Ok b ∧ a.size = b.size ∧ a.hashes = b.hashes ∧ uni a b = ⟨a.size, a.hashes, once (a.set ++ b.set)⟩ := by
  have e := h
  unfold uniErr at h
  split at h
  · rename_i h1; exact absurd h h1
  · rename_i h1
    split at h
    · rename_i h2; exact absurd h h2
    · rename_i h2
      split at h
      · cases h
      · exact ⟨check_ok.1 (by simpa using h1), check_ok.1 (by simpa using h2), by omega, by omega, if_pos e⟩
theorem fe1 {f : DFilter} (h : check f ≠ 0) : fold f = zero ∧ foldErr f = check f := by
  have e : foldErr f = check f := if_pos h
  exact ⟨if_neg (by rw [e]; exact h), e⟩
theorem fe2 {f : DFilter} (h : check f = 0) (h2 : f.size.tmod 2 ≠ 0) : fold f = zero ∧ foldErr f = 4 := by
  have e : foldErr f = 4 := by unfold foldErr; rw [if_neg (by simp [h]), if_pos h2]
  exact ⟨if_neg (by rw [e]; decide), e⟩
theorem fe3 {f : DFilter} (h : check f = 0) (h2 : f.size.tmod 2 = 0) : fold f = ⟨f.size.tdiv 2, f.hashes, once (f.set.map fun x => x.tdiv 2)⟩ ∧ foldErr f = 0 := by
  have e : foldErr f = 0 := by unfold foldErr; rw [if_neg (by simp [h]), if_neg (by simp [h2])]
  exact ⟨if_pos e, e⟩
structure FoI (f o : DFilter) (k : Nat) : Prop where
  le : k ≤ f.set.length
  size : o.size = f.size.tdiv 2
  hashes : o.hashes = f.hashes
  set : o.set = (f.set.take k).map fun x => x.tdiv 2
theorem FoI.start (f : DFilter) : FoI f ⟨f.size.tdiv 2, f.hashes, []⟩ 0 := ⟨Nat.zero_le _, rfl, rfl, rfl⟩
theorem FoI.len {f o : DFilter} {k : Nat} (h : FoI f o k) : o.set.length = k := by rw [h.set, List.length_map, List.length_take]; have := h.le; omega
theorem FoI.next {f o : DFilter} {k : Nat} (h : FoI f o k) (hk : k < f.set.length) : FoI f ⟨o.size, o.hashes, o.set ++ [(f.set[k]).tdiv 2]⟩ (k + 1) := ⟨hk, h.size, h.hashes, by rw [List.take_succ_eq_append_getElem hk, List.map_append, h.set]; rfl⟩
theorem FoI.done {f o : DFilter} {k : Nat} (h : FoI f o k) (hk : f.set.length ≤ k) : o = ⟨f.size.tdiv 2, f.hashes, f.set.map fun x => x.tdiv 2⟩ := by
  have := h.set; rw [List.take_of_length_le hk] at this
  cases o; simp_all [h.size, h.hashes]
  exact ⟨h.size, h.hashes⟩
end Go.Sx.Bl
namespace Go.Sx.Bl
theorem cmp_ge {x y : Int} (h : y ≤ x) : 0 ≤ cmpI x y := by unfold cmpI; rw [if_neg (by omega)]; split <;> decide
theorem hit_eq2 {l : List Int} {target i : Int} (h : i = (lowF (fun x : Int => cmpI x target) l : Int)) : (decide (i < (l.length : Int)) && ((l.getD i.toNat default == target) || false)) = hitF (fun x : Int => cmpI x target) l := by
  unfold hitF
  rw [h, Bool.or_false, show (((lowF (fun x : Int => cmpI x target) l : Nat) : Int)).toNat = lowF (fun x : Int => cmpI x target) l from Int.toNat_natCast _]
  congr 1
  rw [Bool.eq_iff_iff, beq_iff_eq, beq_iff_eq, cmpI_zero]
theorem at_bd {f : DFilter} (h : Ok f) {k : Nat} (hk : k < f.set.length) : (0 ≤ f.set[k] ∧ f.set[k] < f.size) ∧ (f.set[k]).tdiv 2 = f.set[k] / 2 := by
  have := h.bd _ (List.getElem_mem hk)
  exact ⟨this, Int.tdiv_eq_ediv_of_nonneg this.1⟩
end Go.Sx.Bl

/- Bloom filters: the references, place by place. -/
namespace Go.Sx.Bl
def upto (n : Nat) (p : Int → Bool) : List Int := ((List.range n).map Int.ofNat).filter p
theorem upto_mem {n : Nat} {p : Int → Bool} {x : Int} : x ∈ upto n p ↔ (0 ≤ x ∧ x < (n : Int)) ∧ p x = true := by
  unfold upto
  rw [List.mem_filter, List.mem_map]
  constructor
  · rintro ⟨⟨i, hi, rfl⟩, h⟩; have := List.mem_range.1 hi; exact ⟨⟨Int.natCast_nonneg i, by simpa using this⟩, h⟩
  · rintro ⟨h1, h2⟩; exact ⟨⟨x.toNat, List.mem_range.2 (by omega), by simp; omega⟩, h2⟩
theorem upto_up (n : Nat) (p : Int → Bool) : Up (upto n p) := by
  unfold Up upto
  refine List.Pairwise.filter _ ?_
  rw [List.pairwise_map]
  exact List.pairwise_lt_range.imp fun h => Int.ofNat_lt.2 h
theorem upto_len (n : Nat) (p : Int → Bool) : (upto n p).length ≤ n := by
  unfold upto; exact Nat.le_trans (List.length_filter_le _ _) (by simp)
theorem upto_succ (n : Nat) (p : Int → Bool) : upto (n + 1) p = upto n p ++ if p (n : Int) = true then [(n : Int)] else [] := by
  unfold upto
  rw [List.range_succ, List.map_append, List.filter_append]
  congr 1
  simp only [List.map_cons, List.map_nil, List.filter_cons, List.filter_nil]
  rfl
theorem up_t {n : Nat} {p : Int → Bool} {out : List Int} (h : out = upto n p) (hp : p (n : Int) = true) : out ++ [(n : Int)] = upto (n + 1) p := by rw [upto_succ, if_pos hp, h]
theorem up_f {n : Nat} {p : Int → Bool} {out : List Int} (h : out = upto n p) (hp : ¬ p (n : Int) = true) : out = upto (n + 1) p := by rw [upto_succ, if_neg hp, h, List.append_nil]
theorem place_eq {f : DFilter} {s : ByteArray} (hs : s.size ≤ 40) (i : Int) : place f s i = Hash.rawFold (Hash.mix (Hash.raw s ^^^ toU i)) f.size := by
  unfold place; rw [(Hash.sum_short (toU i) (by omega)).2.2]
theorem isp_t {f : DFilter} {s : ByteArray} {at_ : Int} (hs : s.size ≤ 40) {i : Nat} (hi : (i : Int) < f.hashes) (h : Hash.rawFold (Hash.mix (Hash.raw s ^^^ toU (i : Int))) f.size = at_) : true = decide (at_ ∈ places f s) :=
  (decide_eq_true (places_mem.2 ⟨i, hi, (place_eq hs _).trans h⟩)).symm
theorem isp_f {f : DFilter} {s : ByteArray} {at_ : Int} {i : Nat} (h : ∀ j : Nat, j < i → place f s (j : Int) ≠ at_) (hi : f.hashes ≤ (i : Int)) : false = decide (at_ ∈ places f s) := by
  refine (decide_eq_false fun hm => ?_).symm
  obtain ⟨j, hj, e⟩ := places_mem.1 hm
  exact h j (by omega) e
theorem isp_n {f : DFilter} {s : ByteArray} {at_ : Int} {i : Nat} (hs : s.size ≤ 40) (h : ∀ j : Nat, j < i → place f s (j : Int) ≠ at_) (hn : ¬ Hash.rawFold (Hash.mix (Hash.raw s ^^^ toU (i : Int))) f.size = at_) : ∀ j : Nat, j < i + 1 → place f s (j : Int) ≠ at_ := by
  intro j hj
  rcases Nat.lt_or_ge j i with h1 | h1
  · exact h j h1
  · rw [show j = i by omega, place_eq hs]; exact hn
theorem places_upto {f : DFilter} (h : Ok f) (s : ByteArray) {k : Nat} (hk : (k : Int) = f.size) : upto k (fun x => decide (x ∈ places f s)) = places f s := by
  refine up_eq (upto_up _ _) (once_up _) fun x => ?_
  rw [upto_mem, decide_eq_true_eq]
  exact ⟨fun q => q.2, fun q => ⟨by have := places_bd h q; omega, q⟩⟩
def lastAt (f : DFilter) (k : Nat) : Int := if k = 0 then -1 else f.set.getD ((k : Int) - 1).toNat default
theorem rc_next {f : DFilter} {k : Nat} (h : CkI f (lastAt f k) k) (hk : k < f.set.length) (hb : 0 ≤ f.set.getD k default ∧ f.set.getD k default ≤ f.size - 1) (hl : ¬ (0 < (k : Int) ∧ f.set.getD k default ≤ f.set.getD ((k : Int) - 1).toNat default)) : CkI f (lastAt f (k + 1)) (k + 1) := by
  have e : lastAt f (k + 1) = f.set[k] := by unfold lastAt; rw [if_neg (by omega), show (((k + 1 : Nat) : Int) - 1).toNat = k by omega, getd_at hk]
  rw [e]
  rw [← getd_at hk default] at hb hl
  refine h.next hk ⟨hb.1, by omega⟩ ?_
  unfold lastAt
  split
  · omega
  · rcases Int.lt_or_le (f.set.getD ((k : Int) - 1).toNat default) f.set[k] with h9 | h9
    · exact h9
    · exact absurd ⟨by omega, h9⟩ hl
theorem rc_bad {f : DFilter} {k : Nat} (h : CkI f (lastAt f k) k) (hk : k < f.set.length) (hb : ¬ (0 ≤ f.set.getD k default ∧ f.set.getD k default ≤ f.size - 1)) : 3 = scan f.size (-1) f.set := by
  rw [← getd_at hk default] at hb
  exact h.bad hk (by omega)
theorem rc_low {f : DFilter} {k : Nat} (h : CkI f (lastAt f k) k) (hk : k < f.set.length) (hb : 0 ≤ f.set.getD k default ∧ f.set.getD k default ≤ f.size - 1) (hl : 0 < (k : Int) ∧ f.set.getD k default ≤ f.set.getD ((k : Int) - 1).toNat default) : 4 = scan f.size (-1) f.set := by
  rw [← getd_at hk default] at hb hl
  refine h.low hk ⟨hb.1, by omega⟩ ?_
  unfold lastAt; rw [if_neg (by omega)]; exact hl.2
theorem bt1 {n a b : Int} (h : Ref.between n a b = true) : a ≤ n ∧ n ≤ b := by simpa [Ref.between] using h
theorem bt0 {n a b : Int} (h : Ref.between n a b = false) : ¬ (a ≤ n ∧ n ≤ b) := by
  intro q; rw [show Ref.between n a b = true by simp [Ref.between, q]] at h; cases h
theorem rg0 {f : DFilter} (h : Ref.between f.size 1 1024 = false ∨ Ref.between f.hashes 1 8 = false) : ((f.size < 1 ∨ 1024 < f.size) ∨ f.hashes < 1) ∨ 8 < f.hashes := by
  rcases h with h | h <;> have := bt0 h <;> omega
theorem rg1 {f : DFilter} (h : Ref.between f.size 1 1024 = true ∧ Ref.between f.hashes 1 8 = true) : ((1 ≤ f.size ∧ f.size ≤ 1024) ∧ 1 ≤ f.hashes) ∧ f.hashes ≤ 8 := by
  have h1 := bt1 h.1; have h2 := bt1 h.2; omega
/-! ### the law of the results -/
def both (a b : List Int) (size : Int) : List Int := upto size.toNat fun x => Ref.hasInt a x || Ref.hasInt b x
def half (f : DFilter) : List Int := upto (f.size.tdiv 2).toNat fun x => Ref.hasInt f.set (2 * x) || Ref.hasInt f.set (2 * x + 1)
theorem has {l : List Int} {n : Int} : Ref.hasInt l n = true ↔ n ∈ l := by simp [Ref.hasInt]
theorem both_eq {a b : List Int} {size : Int} (ha : ∀ x ∈ a, 0 ≤ x ∧ x < size) (hb : ∀ x ∈ b, 0 ≤ x ∧ x < size) : both a b size = once (a ++ b) := by
  refine up_eq (upto_up _ _) (once_up _) fun x => ?_
  rw [both, upto_mem, Bool.or_eq_true, has, has, once_mem, List.mem_append]
  refine ⟨fun q => q.2, fun q => ⟨?_, q⟩⟩
  rcases q with q | q
  · have := ha x q; omega
  · have := hb x q; omega
theorem half_eq {f : DFilter} (h : Ok f) (he : f.size.tmod 2 = 0) : half f = once (f.set.map fun x => x.tdiv 2) := by
  have h1 : f.size.tmod 2 = f.size % 2 := Int.tmod_eq_emod_of_nonneg (by have := h.size; omega)
  have h2 : f.size.tdiv 2 = f.size / 2 := Int.tdiv_eq_ediv_of_nonneg (by have := h.size; omega)
  refine up_eq (upto_up _ _) (once_up _) fun x => ?_
  rw [half, upto_mem, Bool.or_eq_true, has, has, once_mem, List.mem_map, h2]
  constructor
  · rintro ⟨h3, h4⟩
    rcases h4 with h4 | h4
    · exact ⟨_, h4, by rw [Int.tdiv_eq_ediv_of_nonneg (by omega)]; omega⟩
    · exact ⟨_, h4, by rw [Int.tdiv_eq_ediv_of_nonneg (by omega)]; omega⟩
  · rintro ⟨y, hy, rfl⟩
    have hb := h.bd y hy
    rw [Int.tdiv_eq_ediv_of_nonneg hb.1]
    refine ⟨by omega, ?_⟩
    rcases Int.emod_two_eq y with e | e
    · left; rw [show 2 * (y / 2) = y by omega]; exact hy
    · right; rw [show 2 * (y / 2) + 1 = y by omega]; exact hy
theorem may_same {f : DFilter} {s : ByteArray} (h : keyErr f s = 0) : Ref.sameInts (once (f.set ++ places f s)) f.set = may f s := by
  have ho := (key_ok h).1
  rw [may_ok h, Bool.eq_iff_iff]
  simp only [Ref.sameInts, decide_eq_true_eq, Bool.not_eq_true', List.any_eq_false, Bool.not_eq_true', decide_eq_false_iff_not, Classical.not_not]
  constructor
  · intro e x hx; rw [← e, once_mem]; simp [hx]
  · intro e
    refine up_eq (once_up _) ho.up fun x => ?_
    rw [once_mem, List.mem_append]
    exact ⟨fun q => q.elim id (e x), .inl⟩
theorem sA0 {a : DFilter} (s : ByteArray) (h : check a ≠ 0) : check a = keyErr a s ∧ [] = bits a s ∧ zero = add a s ∧ false = may a s := by
  have e := ke1 s h
  have e2 : keyErr a s ≠ 0 := by rw [← e]; exact h
  exact ⟨e, (bits_bad e2).symm, (add_bad e2).symm, (may_bad e2).symm⟩
theorem sA1 {a : DFilter} {s : ByteArray} (h : check a = 0) (hs : 40 < s.size) : 2 = keyErr a s ∧ [] = bits a s ∧ zero = add a s ∧ false = may a s := by
  have e : 2 = keyErr a s := (if_pos hs).symm.trans (ke2 (s := s) h)
  have e2 : keyErr a s ≠ 0 := by rw [← e]; decide
  exact ⟨e, (bits_bad e2).symm, (add_bad e2).symm, (may_bad e2).symm⟩
theorem sA2 {a : DFilter} {s : ByteArray} (h : check a = 0) (hs : s.size ≤ 40) : check a = keyErr a s ∧ places a s = bits a s ∧ (⟨a.size, a.hashes, both a.set (places a s) a.size⟩ : DFilter) = add a s ∧ Ref.sameInts (both a.set (places a s) a.size) a.set = may a s := by
  have ho := check_ok.1 h
  have e := key_of ho hs
  rw [both_eq ho.bd fun x hx => places_bd ho hx]
  exact ⟨h.trans e.symm, (bits_ok e).symm, (add_ok e).symm, may_same e⟩
theorem sB0 {a : DFilter} (b : DFilter) (h : check a ≠ 0) : check a = uniErr a b ∧ zero = uni a b := ⟨(ue1 h).2.symm, (ue1 h).1.symm⟩
theorem sB1 {a b : DFilter} (h : check a = 0) (h2 : check b ≠ 0) : check b = uniErr a b ∧ zero = uni a b := ⟨(ue2 h h2).2.symm, (ue2 h h2).1.symm⟩
theorem sB2 {a b : DFilter} (h : check a = 0) (h2 : check b = 0) (h3 : ¬ a.size = b.size ∨ ¬ a.hashes = b.hashes) : 7 = uniErr a b ∧ zero = uni a b := ⟨(ue3 h h2 h3).2.symm, (ue3 h h2 h3).1.symm⟩
theorem sB3 {a b : DFilter} (h : check a = 0) (h2 : check b = 0) (h3 : a.size = b.size ∧ a.hashes = b.hashes) : check b = uniErr a b ∧ (⟨a.size, a.hashes, both a.set b.set a.size⟩ : DFilter) = uni a b := by
  rw [both_eq (check_ok.1 h).bd fun x hx => by rw [h3.1]; exact (check_ok.1 h2).bd x hx]
  exact ⟨h2.trans (ue4 h h2 h3).2.symm, (ue4 h h2 h3).1.symm⟩
theorem sC0 {a : DFilter} (h : check a ≠ 0) : check a = foldErr a ∧ zero = fold a := ⟨(fe1 h).2.symm, (fe1 h).1.symm⟩
theorem sC1 {a : DFilter} (h : check a = 0) (h2 : a.size.tmod 2 = 1) : 4 = foldErr a ∧ zero = fold a := ⟨(fe2 h (by omega)).2.symm, (fe2 h (by omega)).1.symm⟩
theorem sC2 {a : DFilter} (h : check a = 0) (h2 : ¬ a.size.tmod 2 = 1) : check a = foldErr a ∧ (⟨a.size.tdiv 2, a.hashes, half a⟩ : DFilter) = fold a := by
  have ho := check_ok.1 h
  have h1 : a.size.tmod 2 = a.size % 2 := Int.tmod_eq_emod_of_nonneg (by have := ho.size; omega)
  have h3 : a.size.tmod 2 = 0 := by omega
  rw [half_eq ho h3]
  exact ⟨h.trans (fe3 h h3).2.symm, (fe3 h h3).1.symm⟩
end Go.Sx.Bl

/- Bloom filters: what was added is found; unions and halves. -/
namespace Go.Sx.Bl
theorem places_same {f g : DFilter} (h1 : f.size = g.size) (h2 : f.hashes = g.hashes) (s : ByteArray) : places f s = places g s := by unfold places place; rw [h1, h2]
theorem may_iff {f : DFilter} {s : ByteArray} (h : keyErr f s = 0) : may f s = true ↔ ∀ x ∈ places f s, x ∈ f.set := by
  rw [may_ok h]
  simp only [Bool.not_eq_true', List.any_eq_false, Bool.not_eq_true', decide_eq_false_iff_not, Classical.not_not]
theorem may_add {f : DFilter} {s t : ByteArray} (h : keyErr f s = 0) (ht : keyErr f t = 0) (hm : may f t = true ∨ t = s) : keyErr (add f s) t = 0 ∧ may (add f s) t = true := by
  have hk := key_of (ok_add h) (key_ok ht).2
  refine ⟨hk, (may_iff hk).2 fun x hx => ?_⟩
  rw [places_same (g := f) (by rw [add_ok h]) (by rw [add_ok h])] at hx
  rw [add_ok h]
  show x ∈ once _
  rw [once_mem, List.mem_append]
  rcases hm with hm | rfl
  · exact .inl ((may_iff ht).1 hm x hx)
  · exact .inr hx
structure NF (l : List ByteArray) (ff : DFilter) (k : Nat) : Prop where
  le : k ≤ l.length
  ok : ∀ j, j < k → keyErr ff (l.getD j default) = 0 ∧ may ff (l.getD j default) = true
theorem NF.start (l : List ByteArray) (f : DFilter) : NF l f 0 := ⟨Nat.zero_le _, fun j h => absurd h (Nat.not_lt_zero j)⟩
theorem NF.next {l : List ByteArray} {ff : DFilter} {k : Nat} (h : NF l ff k) (hk : k < l.length) (he : keyErr ff (l.getD k default) = 0) : NF l (add ff (l.getD k default)) (k + 1) := by
  refine ⟨hk, fun j hj => ?_⟩
  rcases Nat.lt_or_ge j k with h1 | h1
  · exact may_add he (h.ok j h1).1 (.inl (h.ok j h1).2)
  · rw [show j = k by omega]; exact may_add he he (.inr rfl)
theorem same_bad {f : DFilter} {s : ByteArray} (h : keyErr f s ≠ 0) : decide (add f s = (⟨0, 0, []⟩ : DFilter)) = true := by rw [add_bad h]; rfl
theorem uni_bad {a b : DFilter} (h : uniErr a b ≠ 0) : decide (uni a b = (⟨0, 0, []⟩ : DFilter)) = true := by rw [show uni a b = zero from if_neg h]; rfl
theorem fold_bad {f : DFilter} (h : foldErr f ≠ 0) : decide (fold f = (⟨0, 0, []⟩ : DFilter)) = true := by rw [show fold f = zero from if_neg h]; rfl
theorem ok_uni {a b : DFilter} (h : uniErr a b = 0) : Ok (uni a b) := by
  obtain ⟨h1, h2, h3, h4, h5⟩ := uni_ok h
  rw [h5]
  refine ⟨h1.size, h1.hashes, once_up _, fun x hx => ?_⟩
  rcases List.mem_append.1 (once_mem.1 hx) with e | e
  · exact h1.bd x e
  · have := h2.bd x e; show 0 ≤ x ∧ x < a.size; rw [h3]; exact this
theorem key_eq {f g : DFilter} (hf : Ok f) (hg : Ok g) (s : ByteArray) : keyErr f s = keyErr g s := by
  rw [← ke2 (check_ok.2 hf), ← ke2 (check_ok.2 hg)]
theorem union1 {a b : DFilter} (h : uniErr a b = 0) (s t : ByteArray) : keyErr a s = keyErr (uni a b) s ∧ keyErr b t = keyErr (uni a b) t ∧ (may b t = true → may (uni a b) t = true) := by
  have hu := ok_uni h
  obtain ⟨h1, h2, h3, h4, h5⟩ := uni_ok h
  refine ⟨key_eq h1 hu s, key_eq h2 hu t, fun hm => ?_⟩
  by_cases hk : keyErr b t = 0
  · have hk2 : keyErr (uni a b) t = 0 := by rw [← key_eq h2 hu]; exact hk
    refine (may_iff hk2).2 fun x hx => ?_
    rw [places_same (g := b) (by rw [h5, h3]) (by rw [h5, h4])] at hx
    rw [h5]; show x ∈ once _; rw [once_mem, List.mem_append]
    exact .inr ((may_iff hk).1 hm x hx)
  · rw [may_bad hk] at hm; cases hm
theorem union2 {a b : DFilter} (h : uniErr a b = 0) {s : ByteArray} (hs : keyErr a s = 0) : uniErr (add a s) b = 0 ∧ uni (add a s) b = add (uni a b) s ∧ uniErr b (add a s) = 0 ∧ uni b (add a s) = add (uni a b) s := by
  have hu := ok_uni h
  obtain ⟨h1, h2, h3, h4, h5⟩ := uni_ok h
  have ha := ok_add hs
  have hsu : keyErr (uni a b) s = 0 := by rw [← key_eq h1 hu]; exact hs
  have es : (add a s).size = a.size := by rw [add_ok hs]
  have eh : (add a s).hashes = a.hashes := by rw [add_ok hs]
  have e1 := ue4 (check_ok.2 ha) (check_ok.2 h2) (by rw [es, eh]; exact ⟨h3, h4⟩)
  have e2 := ue4 (check_ok.2 h2) (check_ok.2 ha) (by rw [es, eh]; exact ⟨h3.symm, h4.symm⟩)
  have hp : places (uni a b) s = places a s := places_same (by rw [h5]) (by rw [h5]) s
  have hadd : add (uni a b) s = ⟨a.size, a.hashes, once (once (a.set ++ b.set) ++ places a s)⟩ := by rw [add_ok hsu, hp, h5]
  refine ⟨e1.2, ?_, e2.2, ?_⟩
  · rw [e1.1, hadd, es, eh, add_ok hs]
    congr 1
    refine up_eq (once_up _) (once_up _) fun x => ?_
    simp only [once_mem, List.mem_append]; grind
  · rw [e2.1, hadd, ← h3, ← h4, add_ok hs]
    congr 1
    refine up_eq (once_up _) (once_up _) fun x => ?_
    simp only [once_mem, List.mem_append]; grind
theorem fold_ok {f : DFilter} (h : foldErr f = 0) : Ok f ∧ f.size.tmod 2 = 0 ∧ fold f = ⟨f.size / 2, f.hashes, once (f.set.map fun x => x.tdiv 2)⟩ := by
  have e := h
  unfold foldErr at h
  split at h
  · rename_i h1; exact absurd h h1
  · rename_i h1
    split at h
    · cases h
    · rename_i h2
      have ho := check_ok.1 (show check f = 0 by simpa using h1)
      refine ⟨ho, by simpa using h2, ?_⟩
      rw [show fold f = ⟨f.size.tdiv 2, f.hashes, once (f.set.map fun x => x.tdiv 2)⟩ from if_pos e, Int.tdiv_eq_ediv_of_nonneg (by have := ho.size; omega)]
theorem ok_fold {f : DFilter} (h : foldErr f = 0) : Ok (fold f) := by
  obtain ⟨ho, hm, e⟩ := fold_ok h
  have hs := ho.size
  have h1 : f.size.tmod 2 = f.size % 2 := Int.tmod_eq_emod_of_nonneg (by omega)
  rw [e]
  refine ⟨by show 1 ≤ f.size / 2 ∧ f.size / 2 ≤ 1024; omega, ho.hashes, once_up _, fun x hx => ?_⟩
  obtain ⟨y, hy, rfl⟩ := List.mem_map.1 (once_mem.1 hx)
  have := ho.bd y hy
  show 0 ≤ y.tdiv 2 ∧ y.tdiv 2 < f.size / 2
  rw [Int.tdiv_eq_ediv_of_nonneg this.1]; omega
theorem place_fold {f : DFilter} (h : foldErr f = 0) (s : ByteArray) (i : Int) : place (fold f) s i = (place f s i).tdiv 2 := by
  obtain ⟨ho, hm, e⟩ := fold_ok h
  have hs := ho.size
  have h1 : f.size.tmod 2 = f.size % 2 := Int.tmod_eq_emod_of_nonneg (by omega)
  have e1 := Hash.rawFold_eq (Hash.salted s (toU i)) f.size.toNat (by omega)
  have e2 := Hash.rawFold_eq (Hash.salted s (toU i)) (f.size / 2).toNat (by omega)
  rw [show ((f.size.toNat : Nat) : Int) = f.size by omega] at e1
  rw [show (((f.size / 2).toNat : Nat) : Int) = f.size / 2 by omega] at e2
  unfold place
  rw [show (fold f).size = f.size / 2 by rw [e], e1, e2, Int.tdiv_eq_ediv_of_nonneg (Int.natCast_nonneg _)]
  have h2 : f.size.toNat = (f.size / 2).toNat * 2 := by omega
  rw [h2]
  generalize (Hash.salted s (toU i)).toNat / 4294967296 = n
  generalize (f.size / 2).toNat = m
  rw [← Nat.mul_assoc]
  generalize n * m = q
  omega
theorem places_fold {f : DFilter} (h : foldErr f = 0) (s : ByteArray) (x : Int) : x ∈ places (fold f) s ↔ ∃ y ∈ places f s, y.tdiv 2 = x := by
  rw [places_mem]
  have eh : (fold f).hashes = f.hashes := by rw [(fold_ok h).2.2]
  rw [eh]
  constructor
  · rintro ⟨i, hi, rfl⟩; exact ⟨_, places_mem.2 ⟨i, hi, rfl⟩, (place_fold h s _).symm⟩
  · rintro ⟨y, hy, rfl⟩; obtain ⟨i, hi, rfl⟩ := places_mem.1 hy; exact ⟨i, hi, place_fold h s _⟩
theorem fold1 {f : DFilter} (h : foldErr f = 0) (s : ByteArray) : keyErr f s = keyErr (fold f) s ∧ (may f s = true → may (fold f) s = true) := by
  have ho := (fold_ok h).1
  refine ⟨key_eq ho (ok_fold h) s, fun hm => ?_⟩
  by_cases hk : keyErr f s = 0
  · have hk2 : keyErr (fold f) s = 0 := by rw [← key_eq ho (ok_fold h)]; exact hk
    refine (may_iff hk2).2 fun x hx => ?_
    obtain ⟨y, hy, rfl⟩ := (places_fold h s x).1 hx
    rw [(fold_ok h).2.2]; show _ ∈ once _; rw [once_mem, List.mem_map]
    exact ⟨y, (may_iff hk).1 hm y hy, rfl⟩
  · rw [may_bad hk] at hm; cases hm
theorem fold2 {f : DFilter} (h : foldErr f = 0) {t : ByteArray} (ht : keyErr f t = 0) : foldErr (add f t) = 0 ∧ fold (add f t) = add (fold f) t := by
  obtain ⟨ho, hm, e⟩ := fold_ok h
  have ha := ok_add ht
  have es : (add f t).size = f.size := by rw [add_ok ht]
  have eh : (add f t).hashes = f.hashes := by rw [add_ok ht]
  have e1 := fe3 (check_ok.2 ha) (by rw [es]; exact hm)
  have ht2 : keyErr (fold f) t = 0 := by rw [← key_eq ho (ok_fold h)]; exact ht
  refine ⟨e1.2, ?_⟩
  rw [e1.1, add_ok ht2, es, eh, show (fold f).size = f.size.tdiv 2 by rw [e, Int.tdiv_eq_ediv_of_nonneg (by have := ho.size; omega)], show (fold f).hashes = f.hashes by rw [e]]
  congr 1
  refine up_eq (once_up _) (once_up _) fun x => ?_
  rw [once_mem, once_mem, List.mem_append, List.mem_map, places_fold h, add_ok ht, e]
  show (∃ y ∈ once (f.set ++ places f t), y.tdiv 2 = x) ↔ x ∈ once _ ∨ _
  rw [once_mem, List.mem_map]
  constructor
  · rintro ⟨y, hy, rfl⟩
    rcases List.mem_append.1 (once_mem.1 hy) with q | q
    · exact .inl ⟨y, q, rfl⟩
    · exact .inr ⟨y, q, rfl⟩
  · rintro (⟨y, hy, rfl⟩ | ⟨y, hy, rfl⟩)
    · exact ⟨y, once_mem.2 (List.mem_append.2 (.inl hy)), rfl⟩
    · exact ⟨y, once_mem.2 (List.mem_append.2 (.inr hy)), rfl⟩
end Go.Sx.Bl

/- Least recently used: the plain functions. -/
namespace Go.Sx
structure DCache where
  room : Int
  keys : List Int
deriving DecidableEq
namespace Lru
def check (c : DCache) : Int := if okRoom c.room = false then 3 else if c.room < (c.keys.length : Int) then 2 else keys c.keys
/-- A cache that may be touched. -/
structure Ok (c : DCache) : Prop where
  room : 1 ≤ c.room ∧ c.room ≤ 40
  len : (c.keys.length : Int) ≤ c.room
  key : ∀ k ∈ c.keys, okKey k = true
  once : c.keys.Nodup
theorem check_ok {c : DCache} : check c = 0 ↔ Ok c := by
  unfold check
  constructor
  · intro e
    split at e
    · cases e
    · split at e
      · cases e
      · rename_i h1 h2
        have h3 := keys_ok.1 e
        simp [okRoom] at h1
        exact ⟨by omega, by omega, h3.1, h3.2⟩
  · rintro ⟨a, b, c, d⟩
    rw [if_neg (by simp [okRoom]; omega), if_neg (by omega)]
    exact keys_ok.2 ⟨c, d⟩
theorem ok_of {c : DCache} (h : check c = 0) : Ok c := check_ok.1 h
def front (room : Nat) (l : List Int) (k : Int) : List Int := (k :: l.erase k).take room
def gone (room : Int) (l : List Int) (k : Int) : Int := if k ∉ l ∧ (l.length : Int) = room then l.getLastD (-1) else -1
def touch (c : DCache) (key : Int) : DCache × Bool × Int := (⟨c.room, front c.room.toNat c.keys key⟩, decide (key ∈ c.keys), gone c.room c.keys key)
def zero : DCache := ⟨0, []⟩
def accessErr (c : DCache) (key : Int) : Int := if check c = 0 then (if okKey key then 0 else 3) else check c
def access (c : DCache) (key : Int) : DCache × Bool × Int := if accessErr c key = 0 then touch c key else (zero, false, 0)
def runGo (c : DCache) (n : Int) : List Int → DCache × Int
  | [] => (c, n)
  | k :: l => runGo (touch c k).1 (if (touch c k).2.1 then n + 1 else n) l
def runErr (c : DCache) (l : List Int) : Int := if check c = 0 then trace l else check c
def run (c : DCache) (l : List Int) : DCache × Int := if runErr c l = 0 then runGo c 0 l else (zero, 0)
def sizeErr (c : DCache) (room : Int) : Int := if check c = 0 then (if okRoom room then 0 else 3) else check c
def resize (c : DCache) (room : Int) : DCache × List Int := if sizeErr c room = 0 then (⟨room, c.keys.take room.toNat⟩, (c.keys.drop room.toNat).reverse) else (zero, [])
end Lru
end Go.Sx

/- Least recently used: what a touch and a run do. -/
namespace Go.Sx.Lru
abbrev at_ (l : List Int) (key : Int) : Int := idxF (fun x : Int => (x == key)) l
theorem at_lt (l : List Int) (key : Int) : at_ l key < l.length ∧ -1 ≤ at_ l key := idxF_lt _ _
theorem at_mem {l : List Int} {key : Int} : 0 ≤ at_ l key ↔ key ∈ l := by
  rcases idxF_cases (fun x : Int => (x == key)) l with ⟨k, h, e, h1, _⟩ | ⟨e, h1⟩
  · unfold at_; rw [e]
    have : l[k] = key := by simpa using h1
    exact ⟨fun _ => this ▸ List.getElem_mem h, fun _ => by omega⟩
  · unfold at_; rw [e]
    refine ⟨fun h => absurd h (by omega), fun h => ?_⟩
    have := h1 key h; simp at this
theorem at_idx {l : List Int} {key : Int} (h : 0 ≤ at_ l key) : (at_ l key).toNat = l.idxOf key := by
  unfold at_ idxF at h ⊢
  split
  · rfl
  · rename_i h2; rw [if_neg h2] at h; omega
theorem erase_at {l : List Int} {key : Int} (h : 0 ≤ at_ l key) : l.take (at_ l key).toNat ++ l.drop ((at_ l key).toNat + 1) = l.erase key := by
  rw [← List.eraseIdx_eq_take_drop_succ, at_idx h, List.erase_eq_eraseIdx_of_idxOf rfl]
theorem Ok.pos {c : DCache} (h : Ok c) : 0 < c.room.toNat := by have := h.room; omega
theorem front_len (room : Nat) (l : List Int) (k : Int) : (front room l k).length ≤ room := by unfold front; exact List.length_take_le _ _
theorem mem_front {room : Nat} {l : List Int} {k x : Int} (h : x ∈ front room l k) : x = k ∨ x ∈ l := by
  have := List.mem_of_mem_take h
  rcases List.mem_cons.1 this with h | h
  · exact .inl h
  · exact .inr (List.mem_of_mem_erase h)
theorem front_nodup {room : Nat} {l : List Int} (k : Int) (h : l.Nodup) : (front room l k).Nodup := by
  unfold front
  refine List.Nodup.sublist (List.take_sublist _ _) (List.nodup_cons.2 ⟨fun hm => ?_, h.erase k⟩)
  exact absurd rfl (h.mem_erase_iff.1 hm).1
theorem Ok.touch {c : DCache} (h : Ok c) {key : Int} (hk : okKey key = true) : Ok (touch c key).1 := by
  refine ⟨h.room, ?_, ?_, front_nodup key h.once⟩
  · have := front_len c.room.toNat c.keys key; have := h.room
    simp only [Lru.touch]; omega
  · intro k hm
    rcases mem_front hm with rfl | hm
    · exact hk
    · exact h.key k hm
theorem front_hit {room : Nat} {l : List Int} {k : Int} (hk : k ∈ l) (hl : l.length ≤ room) : front room l k = k :: l.erase k := by
  unfold front; rw [List.take_of_length_le]
  have := List.length_erase_of_mem hk
  have := List.length_pos_of_mem hk
  simp only [List.length_cons]; omega
theorem front_add {room : Nat} {l : List Int} {k : Int} (hk : k ∉ l) (hl : l.length < room) : front room l k = k :: l := by
  unfold front; rw [List.erase_of_not_mem hk, List.take_of_length_le (by simp only [List.length_cons]; omega)]
theorem front_full {room : Nat} {l : List Int} {k : Int} (hk : k ∉ l) (h0 : 0 < room) : front room l k = k :: l.take (room - 1) := by
  unfold front; rw [List.erase_of_not_mem hk]
  obtain ⟨n, rfl⟩ : ∃ n, room = n + 1 := ⟨room - 1, by omega⟩
  rw [List.take_succ_cons, Nat.add_sub_cancel]
theorem touch_hit {c : DCache} {key : Int} (ho : Ok c) (h : 0 ≤ at_ c.keys key) : touch c key = (⟨c.room, key :: (c.keys.take (at_ c.keys key).toNat ++ c.keys.drop ((at_ c.keys key).toNat + 1))⟩, true, -1) := by
  have hm := at_mem.1 h
  have := ho.len; have := ho.room
  unfold touch; rw [front_hit hm (by omega), erase_at h]
  simp [gone, hm]
theorem touch_add {c : DCache} {key : Int} (ho : Ok c) (h : at_ c.keys key < 0) (hl : (c.keys.length : Int) ≠ c.room) : touch c key = (⟨c.room, key :: c.keys⟩, false, -1) := by
  have hm : key ∉ c.keys := fun hm => by have := at_mem.2 hm; omega
  have := ho.len; have := ho.room
  unfold touch; rw [front_add hm (by omega)]
  simp [gone, hm, hl]
theorem touch_full {c : DCache} {key : Int} (ho : Ok c) (h : at_ c.keys key < 0) (hl : (c.keys.length : Int) = c.room) (hi : (c.room - 1).toNat < c.keys.length) : touch c key = (⟨c.room, key :: c.keys.take (c.room - 1).toNat⟩, false, c.keys[(c.room - 1).toNat]) := by
  have hm : key ∉ c.keys := fun hm => by have := at_mem.2 hm; omega
  have := ho.len; have := ho.room
  unfold touch; rw [front_full hm (by omega), show c.room.toNat - 1 = (c.room - 1).toNat by omega]
  have e : c.keys.getLastD (-1) = c.keys[(c.room - 1).toNat] := by
    rw [List.getLastD_eq_getLast?, List.getLast?_eq_getElem?, show c.keys.length - 1 = (c.room - 1).toNat by omega, List.getElem?_eq_getElem hi]; rfl
  simp only [gone, hm, not_false_eq_true, hl, and_self, if_true, e, decide_false]
/-! ### access and run -/
theorem acc_cases (c : DCache) (key : Int) : (check c ≠ 0 ∧ access c key = (zero, false, 0) ∧ accessErr c key = check c) ∨ (check c = 0 ∧ okKey key = false ∧ access c key = (zero, false, 0) ∧ accessErr c key = 3) ∨ (check c = 0 ∧ okKey key = true ∧ access c key = touch c key ∧ accessErr c key = 0) := by
  by_cases hc : check c = 0
  · cases hr : okKey key
    · have e : accessErr c key = 3 := by unfold accessErr; rw [if_pos hc, if_neg (by simp [hr])]
      exact .inr (.inl ⟨hc, rfl, by unfold access; rw [e]; rfl, e⟩)
    · have e : accessErr c key = 0 := by unfold accessErr; rw [if_pos hc, if_pos hr]
      exact .inr (.inr ⟨hc, rfl, by unfold access; rw [if_pos e], e⟩)
  · have e : accessErr c key = check c := by unfold accessErr; rw [if_neg hc]
    exact .inl ⟨hc, by unfold access; rw [e, if_neg hc], e⟩
theorem acc1 {c : DCache} {key : Int} (e : check c ≠ 0) : access c key = (zero, false, 0) ∧ accessErr c key = check c := by
  rcases acc_cases c key with ⟨_, b⟩ | ⟨a, _⟩ | ⟨a, _⟩
  · exact b
  · exact absurd a e
  · exact absurd a e
theorem acc2 {c : DCache} {key : Int} (e : check c = 0 ∧ okKey key = false) : access c key = (zero, false, 0) ∧ accessErr c key = 3 := by
  rcases acc_cases c key with ⟨a, _⟩ | ⟨_, _, b⟩ | ⟨_, b, _⟩
  · exact absurd e.1 a
  · exact b
  · rw [e.2] at b; cases b
theorem acc3 {c : DCache} {key : Int} (e2 : ¬ check c = 0 ∨ okKey key = true) (e : check c = 0) : access c key = touch c key ∧ accessErr c key = 0 := by
  rcases acc_cases c key with ⟨a, _⟩ | ⟨_, b, _⟩ | ⟨_, _, b⟩
  · exact absurd e a
  · rcases e2 with e2 | e2
    · exact absurd e e2
    · rw [e2] at b; cases b
  · exact b
theorem acc_bad {c : DCache} {key : Int} (e : accessErr c key ≠ 0) : access c key = (zero, false, 0) := if_neg e
theorem acc_ok {c : DCache} {key : Int} (e : accessErr c key = 0) : check c = 0 ∧ okKey key = true ∧ access c key = touch c key := by
  rcases acc_cases c key with ⟨a, b, d⟩ | ⟨a, a2, b, d⟩ | ⟨a, a2, b, d⟩
  · exact absurd (d ▸ e) a
  · rw [d] at e; cases e
  · exact ⟨a, a2, b⟩
theorem run_cases (c : DCache) (l : List Int) : (check c ≠ 0 ∧ run c l = (zero, 0) ∧ runErr c l = check c) ∨ (check c = 0 ∧ trace l ≠ 0 ∧ run c l = (zero, 0) ∧ runErr c l = trace l) ∨ (check c = 0 ∧ trace l = 0 ∧ run c l = runGo c 0 l ∧ runErr c l = 0) := by
  by_cases h : check c = 0
  · have e : runErr c l = trace l := by unfold runErr; rw [if_pos h]
    by_cases h2 : trace l = 0
    · exact .inr (.inr ⟨h, h2, by unfold run; rw [if_pos (e.trans h2)], e.trans h2⟩)
    · exact .inr (.inl ⟨h, h2, by unfold run; rw [if_neg (by rw [e]; exact h2)], e⟩)
  · have e : runErr c l = check c := by unfold runErr; rw [if_neg h]
    exact .inl ⟨h, by unfold run; rw [if_neg (by rw [e]; exact h)], e⟩
theorem run1 {c : DCache} {l : List Int} (e : check c ≠ 0) : run c l = (zero, 0) ∧ runErr c l = check c := by
  rcases run_cases c l with ⟨_, b⟩ | ⟨a, _⟩ | ⟨a, _⟩
  · exact b
  · exact absurd a e
  · exact absurd a e
theorem run2 {c : DCache} {l : List Int} (e : check c = 0) (e2 : trace l ≠ 0) : run c l = (zero, 0) ∧ runErr c l = trace l := by
  rcases run_cases c l with ⟨a, _⟩ | ⟨_, _, b⟩ | ⟨_, a, _⟩
  · exact absurd e a
  · exact b
  · exact absurd a e2
theorem run3 {c : DCache} {l : List Int} (e : check c = 0) (e2 : trace l = 0) : run c l = runGo c 0 l ∧ runErr c l = 0 := by
  rcases run_cases c l with ⟨a, _⟩ | ⟨_, a, _⟩ | ⟨_, _, b⟩
  · exact absurd e a
  · exact absurd e2 a
  · exact b
theorem run_bad {c : DCache} {l : List Int} (e : runErr c l ≠ 0) : run c l = (zero, 0) := if_neg e
theorem run_ok {c : DCache} {l : List Int} (e : runErr c l = 0) : check c = 0 ∧ trace l = 0 ∧ run c l = runGo c 0 l := by
  rcases run_cases c l with ⟨a, b, d⟩ | ⟨a, a2, b, d⟩ | ⟨a, a2, b, d⟩
  · exact absurd (d ▸ e) a
  · exact absurd (d ▸ e) a2
  · exact ⟨a, a2, b⟩
theorem size_cases (c : DCache) (room : Int) : (check c ≠ 0 ∧ resize c room = (zero, []) ∧ sizeErr c room = check c) ∨ (check c = 0 ∧ okRoom room = false ∧ resize c room = (zero, []) ∧ sizeErr c room = 3) ∨ (check c = 0 ∧ okRoom room = true ∧ resize c room = (⟨room, c.keys.take room.toNat⟩, (c.keys.drop room.toNat).reverse) ∧ sizeErr c room = 0) := by
  by_cases hc : check c = 0
  · cases hr : okRoom room
    · have e : sizeErr c room = 3 := by unfold sizeErr; rw [if_pos hc, if_neg (by simp [hr])]
      exact .inr (.inl ⟨hc, rfl, by unfold resize; rw [e]; rfl, e⟩)
    · have e : sizeErr c room = 0 := by unfold sizeErr; rw [if_pos hc, if_pos hr]
      exact .inr (.inr ⟨hc, rfl, by unfold resize; rw [if_pos e], e⟩)
  · have e : sizeErr c room = check c := by unfold sizeErr; rw [if_neg hc]
    exact .inl ⟨hc, by unfold resize; rw [e, if_neg hc], e⟩
theorem size1 {c : DCache} {room : Int} (e : check c ≠ 0) : resize c room = (zero, []) ∧ sizeErr c room = check c := by
  rcases size_cases c room with ⟨_, b⟩ | ⟨a, _⟩ | ⟨a, _⟩
  · exact b
  · exact absurd a e
  · exact absurd a e
theorem size2 {c : DCache} {room : Int} (e : check c = 0 ∧ okRoom room = false) : resize c room = (zero, []) ∧ sizeErr c room = 3 := by
  rcases size_cases c room with ⟨a, _⟩ | ⟨_, _, b⟩ | ⟨_, b, _⟩
  · exact absurd e.1 a
  · exact b
  · rw [e.2] at b; cases b
theorem size3 {c : DCache} {room : Int} (e : check c = 0) (e2 : okRoom room = true) : resize c room = (⟨room, c.keys.take room.toNat⟩, (c.keys.drop room.toNat).reverse) ∧ sizeErr c room = 0 := by
  rcases size_cases c room with ⟨a, _⟩ | ⟨_, b, _⟩ | ⟨_, _, b⟩
  · exact absurd e a
  · rw [e2] at b; cases b
  · exact b
theorem take_min (l : List Int) (n : Nat) : l.take (min n l.length) = l.take n := by
  rcases Nat.le_total n l.length with h | h
  · rw [Nat.min_eq_left h]
  · rw [Nat.min_eq_right h, List.take_of_length_le h, List.take_of_length_le (Nat.le_refl _)]
theorem drop_min (l : List Int) (n : Nat) : l.drop (min n l.length) = l.drop n := by
  rcases Nat.le_total n l.length with h | h
  · rw [Nat.min_eq_left h]
  · rw [Nat.min_eq_right h, List.drop_of_length_le h, List.drop_of_length_le (Nat.le_refl _)]
theorem keep_nat (l : List Int) {room : Int} (h : 0 ≤ room) : (min room (l.length : Int)).toNat = min room.toNat l.length := by omega
theorem cut_keys (l : List Int) (room : Int) (h : 0 ≤ room) : l.take (min room (l.length : Int)).toNat = l.take room.toNat := by rw [keep_nat l h, take_min]
theorem cut_gone (l : List Int) (room : Int) (h : 0 ≤ room) : (l.drop (min room (l.length : Int)).toNat).reverse = (l.drop room.toNat).reverse := by rw [keep_nat l h, drop_min]
theorem ins0 (l : List Int) (k : Int) : l.take (0 : Int).toNat ++ [k] ++ l.drop (0 : Int).toNat = k :: l := rfl
theorem nat1 {i : Int} (h : 0 ≤ i) : (i + 1).toNat = i.toNat + 1 := by omega
/-! ### the reference's touch -/
/-- the keys but one, as many as there is room, and the last that doesn't fit -/
structure TInv (c : DCache) (key : Int) (oc : DCache) (gone : Int) (i : Nat) : Prop where
  room : oc.room = c.room
  rb : 1 ≤ c.room ∧ c.room ≤ 40
  le : i ≤ c.keys.length
  keys : oc.keys = (key :: (c.keys.take i).filter (fun x => !(x == key))).take c.room.toNat
  gone_ : gone = if c.room.toNat < ((c.keys.take i).filter (fun x => !(x == key))).length + 1 then ((c.keys.take i).filter (fun x => !(x == key))).getLastD (-1) else -1
theorem TInv.start {c : DCache} (h : Ok c) (key : Int) : TInv c key ⟨c.room, [key]⟩ (-1) 0 := by
  have hr := h.room
  refine ⟨rfl, h.room, Nat.zero_le _, ?_, by simp⟩
  obtain ⟨t, ht⟩ : ∃ t, c.room.toNat = t + 1 := ⟨c.room.toNat - 1, by omega⟩
  rw [ht]; simp
theorem TInv.olen {c oc : DCache} {key gone : Int} {i : Nat} (h : TInv c key oc gone i) : oc.keys.length ≤ 40 := by
  have := h.rb
  rw [h.keys, List.length_take]; omega
theorem TInv.skip {c oc : DCache} {key gone : Int} {i : Nat} (h : TInv c key oc gone i) (hi : i < c.keys.length) (hk : c.keys[i] = key) : TInv c key oc gone (i + 1) := by
  have e : (c.keys.take (i + 1)).filter (fun x => !(x == key)) = (c.keys.take i).filter (fun x => !(x == key)) := by
    rw [List.take_succ_eq_append_getElem hi, List.filter_append]; simp [hk]
  exact ⟨h.room, h.rb, hi, by rw [e]; exact h.keys, by rw [e]; exact h.gone_⟩
theorem filt_snoc {l : List Int} {key : Int} {i : Nat} (hi : i < l.length) (hk : l[i] ≠ key) : (l.take (i + 1)).filter (fun x => !(x == key)) = (l.take i).filter (fun x => !(x == key)) ++ [l[i]] := by
  rw [List.take_succ_eq_append_getElem hi, List.filter_append]; simp [hk]
theorem TInv.add {c oc : DCache} {key gone : Int} {i : Nat} (h : TInv c key oc gone i) (hi : i < c.keys.length) (hk : c.keys[i] ≠ key) (hl : (oc.keys.length : Int) < c.room) : TInv c key ⟨oc.room, oc.keys ++ [c.keys[i]]⟩ gone (i + 1) := by
  have hr := h.rb
  have e := filt_snoc hi hk
  have hlen := h.keys
  have hl2 := congrArg List.length hlen
  simp only [List.length_take, List.length_cons] at hl2
  refine ⟨h.room, h.rb, hi, ?_, ?_⟩
  · simp only; rw [e, hlen]
    generalize (c.keys.take i).filter (fun x => !(x == key)) = f at hl2 ⊢
    rw [List.take_of_length_le (l := key :: f) (by simp only [List.length_cons]; omega), List.take_of_length_le (l := key :: (f ++ [c.keys[i]])) (by simp only [List.length_cons, List.length_append, List.length_nil]; omega), List.cons_append]
  · rw [h.gone_, e, if_neg (by omega), if_neg (by simp only [List.length_append, List.length_cons, List.length_nil]; omega)]
theorem TInv.drop {c oc : DCache} {key gone : Int} {i : Nat} (h : TInv c key oc gone i) (hi : i < c.keys.length) (hk : c.keys[i] ≠ key) (hl : c.room ≤ (oc.keys.length : Int)) : TInv c key oc c.keys[i] (i + 1) := by
  have hr := h.rb
  have e := filt_snoc hi hk
  have hlen := h.keys
  have hl2 := congrArg List.length hlen
  simp only [List.length_take, List.length_cons] at hl2
  refine ⟨h.room, h.rb, hi, ?_, ?_⟩
  · rw [e, hlen, ← List.cons_append, List.take_append_of_le_length (by simp only [List.length_cons]; omega)]
  · rw [e, if_pos (by simp only [List.length_append, List.length_cons, List.length_nil]; omega)]; simp
theorem filter_erase {l : List Int} (hn : l.Nodup) (key : Int) : l.filter (fun x => !(x == key)) = l.erase key := by
  rw [hn.erase_eq_filter]; congr 1
theorem TInv.done {c oc : DCache} {key gone : Int} {i : Nat} (h : TInv c key oc gone i) (ho : Ok c) (hi : (c.keys.length : Int) ≤ i) : oc.keys = (Lru.touch c key).1.keys ∧ gone = (Lru.touch c key).2.2 := by
  have hr := h.rb
  have hl := ho.len
  have e : (c.keys.take i).filter (fun x => !(x == key)) = c.keys.erase key := by rw [List.take_of_length_le (by omega), filter_erase ho.once]
  refine ⟨by rw [h.keys, e]; rfl, ?_⟩
  rw [h.gone_, e]
  show _ = Lru.gone c.room c.keys key
  unfold Lru.gone
  by_cases hm : key ∈ c.keys
  · have h1 := List.length_erase_of_mem hm
    have h2 := List.length_pos_of_mem hm
    rw [if_neg (by omega), if_neg (fun h => h.1 hm)]
  · rw [List.erase_of_not_mem hm]
    by_cases hf : (c.keys.length : Int) = c.room
    · rw [if_pos (by omega), if_pos ⟨hm, hf⟩]
    · rw [if_neg (by omega), if_neg (fun h => hf h.2)]
structure RInv (c cc : DCache) (l : List Int) (n : Int) (k : Nat) : Prop where
  ok : Ok cc
  key : ∀ x ∈ l, okKey x = true
  n0 : 0 ≤ n
  n1 : n ≤ (k : Int)
  le : k ≤ l.length
  go : runGo cc n (l.drop k) = runGo c 0 l
theorem RInv.start {c : DCache} {l : List Int} (h : Ok c) (hk : ∀ x ∈ l, okKey x = true) : RInv c c l 0 0 := ⟨h, hk, Int.le_refl _, Int.le_refl _, Nat.zero_le _, rfl⟩
theorem RInv.start' {c : DCache} {l : List Int} (h : check c = 0) (hk : trace l = 0) : RInv c c l 0 0 := RInv.start (ok_of h) (trace_ok.1 hk).2
theorem RInv.hit {c cc : DCache} {l : List Int} {n : Int} {k : Nat} (h : RInv c cc l n k) (hk : k < l.length) (ht : (Lru.touch cc l[k]).2.1 = true) : RInv c (Lru.touch cc l[k]).1 l (n + 1) (k + 1) := by
  obtain ⟨g1, g0, g2, g3, g4, g5⟩ := h
  rw [List.drop_eq_getElem_cons hk, runGo, if_pos ht] at g5
  exact ⟨g1.touch (g0 _ (List.getElem_mem hk)), g0, by omega, by omega, hk, g5⟩
theorem RInv.miss {c cc : DCache} {l : List Int} {n : Int} {k : Nat} (h : RInv c cc l n k) (hk : k < l.length) (ht : (Lru.touch cc l[k]).2.1 = false) : RInv c (Lru.touch cc l[k]).1 l n (k + 1) := by
  obtain ⟨g1, g0, g2, g3, g4, g5⟩ := h
  rw [List.drop_eq_getElem_cons hk, runGo, if_neg (by simp [ht])] at g5
  exact ⟨g1.touch (g0 _ (List.getElem_mem hk)), g0, by omega, by omega, hk, g5⟩
theorem RInv.done {c cc : DCache} {l : List Int} {n : Int} {k : Nat} (h : RInv c cc l n k) (hk : (l.length : Int) ≤ k) : runGo c 0 l = (cc, n) := by
  rw [← h.go, List.drop_of_length_le (by omega)]; rfl
theorem Ok.runGo {l : List Int} : ∀ {c : DCache} {n : Int}, Ok c → (∀ x ∈ l, okKey x = true) → Ok (runGo c n l).1 := by
  induction l with
  | nil => intro c n h _; exact h
  | cons k l ih => intro c n h hk; exact ih (h.touch (hk k (by simp))) (fun x hx => hk x (by simp [hx]))
theorem runGo_append {l m : List Int} : ∀ {c : DCache} {n : Int}, Lru.runGo c n (l ++ m) = Lru.runGo (Lru.runGo c n l).1 (Lru.runGo c n l).2 m := by
  induction l with
  | nil => intro c n; rfl
  | cons k l ih => intro c n; rw [List.cons_append, Lru.runGo, ih]; rfl
theorem runGo_add {l : List Int} : ∀ {c : DCache} {n : Int}, Lru.runGo c n l = ((Lru.runGo c 0 l).1, n + (Lru.runGo c 0 l).2) := by
  induction l with
  | nil => intro c n; simp [Lru.runGo]
  | cons k l ih =>
    intro c n
    rw [Lru.runGo, ih, Lru.runGo, ih (n := if (Lru.touch c k).2.1 = true then 0 + 1 else 0)]
    split <;> simp <;> omega
theorem runGo_room {l : List Int} : ∀ {c : DCache} {n : Int}, (Lru.runGo c n l).1.room = c.room := by
  induction l with
  | nil => intro c n; rfl
  | cons k l ih => intro c n; rw [Lru.runGo, ih]; rfl
theorem same_cache {a b : DCache} : a = b ↔ a.room = b.room ∧ a.keys = b.keys := by
  constructor
  · rintro rfl; exact ⟨rfl, rfl⟩
  · rintro ⟨h1, h2⟩; cases a; cases b; simp_all
/-! ### inclusion -/
theorem take_erase {l : List Int} {k : Int} {s : Nat} (hk : k ∈ l.take s) : (l.take s).erase k = (l.erase k).take (s - 1) := by
  induction l generalizing s with
  | nil => simp at hk
  | cons a l ih =>
    cases s with
    | zero => simp at hk
    | succ s =>
      rw [List.take_succ_cons] at hk ⊢
      by_cases e : a = k
      · subst e; simp
      · have e' : (a == k) = false := by simpa using e
        rw [List.erase_cons, List.erase_cons, if_neg (by simp [e']), if_neg (by simp [e'])]
        have hk' : k ∈ l.take s := by rcases List.mem_cons.1 hk with h | h; exact absurd h.symm e; exact h
        rw [ih hk']
        obtain ⟨t, rfl⟩ : ∃ t, s = t + 1 := by
          cases s with
          | zero => simp at hk'
          | succ t => exact ⟨t, rfl⟩
        rfl
theorem take_erase_not {l : List Int} {k : Int} {s : Nat} (hk : k ∉ l.take (s + 1)) : (l.erase k).take s = l.take s := by
  induction l generalizing s with
  | nil => simp
  | cons a l ih =>
    rw [List.take_succ_cons] at hk
    have e : ¬ a = k := fun e => hk (by simp [e])
    have e' : (a == k) = false := by simpa using e
    rw [List.erase_cons, if_neg (by simp [e'])]
    cases s with
    | zero => rfl
    | succ s => rw [List.take_succ_cons, List.take_succ_cons, ih (fun h => hk (List.mem_cons_of_mem _ h))]
theorem front_take {s r : Nat} {l : List Int} {k : Int} (hs : 0 < s) (h : s ≤ r) : front s (l.take s) k = (front r l k).take s := by
  obtain ⟨t, rfl⟩ : ∃ t, s = t + 1 := ⟨s - 1, by omega⟩
  unfold front
  rw [List.take_take, Nat.min_eq_left h, List.take_succ_cons, List.take_succ_cons]
  congr 1
  by_cases hk : k ∈ l.take (t + 1)
  · rw [take_erase hk, List.take_take, Nat.add_sub_cancel, Nat.min_self]
  · rw [List.erase_of_not_mem hk, List.take_take, Nat.min_eq_left (by omega), take_erase_not hk]
theorem inclusion {l : List Int} : ∀ {a b : DCache} {n m : Int}, 1 ≤ a.room → a.room ≤ b.room → a.keys = b.keys.take a.room.toNat → n ≤ m → (Lru.runGo a n l).2 ≤ (Lru.runGo b m l).2 ∧ (Lru.runGo a n l).1.keys = (Lru.runGo b m l).1.keys.take a.room.toNat := by
  induction l with
  | nil => intro a b n m _ _ h1 h2; exact ⟨h2, h1⟩
  | cons k l ih =>
    intro a b n m h1 hr hk hn
    rw [Lru.runGo, Lru.runGo]
    refine ih (a := (Lru.touch a k).1) (b := (Lru.touch b k).1) h1 hr ?_ ?_
    · show front a.room.toNat a.keys k = (front b.room.toNat b.keys k).take a.room.toNat
      rw [hk]; exact front_take (by omega) (by omega)
    · have hs : k ∈ a.keys → k ∈ b.keys := fun h => by rw [hk] at h; exact List.mem_of_mem_take h
      simp only [Lru.touch, decide_eq_true_eq]
      by_cases ha : k ∈ a.keys
      · rw [if_pos ha, if_pos (hs ha)]; omega
      · rw [if_neg ha]; split <;> omega
/-! ### what was used last -/
theorem runGo_keys {l : List Int} : ∀ {c : DCache} {n : Int}, ∀ x ∈ (Lru.runGo c n l).1.keys, x ∈ c.keys ∨ x ∈ l := by
  induction l with
  | nil => intro c n x hx; exact .inl hx
  | cons k l ih =>
    intro c n x hx
    rw [Lru.runGo] at hx
    rcases ih x hx with h | h
    · rcases mem_front h with rfl | h
      · exact .inr (by simp)
      · exact .inl h
    · exact .inr (List.mem_cons_of_mem _ h)
theorem runGo_snoc {l : List Int} {c : DCache} {n : Int} {k : Int} : (Lru.runGo c n (l ++ [k])).1 = (Lru.touch (Lru.runGo c n l).1 k).1 := by rw [runGo_append]; rfl
theorem runGo_last {l : List Int} {c : DCache} {n : Int} (h0 : l ≠ []) (hr : 1 ≤ c.room) : ∃ r, (Lru.runGo c n l).1.keys = l.getLast h0 :: r := by
  have e := List.dropLast_concat_getLast h0
  have : (Lru.runGo c n l).1 = (Lru.touch (Lru.runGo c n l.dropLast).1 (l.getLast h0)).1 := by
    conv => lhs; rw [← e]
    exact runGo_snoc
  rw [this]
  show ∃ r, front (Lru.runGo c n l.dropLast).1.room.toNat _ _ = _
  rw [runGo_room]
  obtain ⟨t, ht⟩ : ∃ t, c.room.toNat = t + 1 := ⟨c.room.toNat - 1, by omega⟩
  unfold front; rw [ht, List.take_succ_cons]; exact ⟨_, rfl⟩
theorem touch_first {c : DCache} {k : Int} {r : List Int} (ho : Ok c) (h : c.keys = k :: r) : Lru.touch c k = (c, true, -1) := by
  have hm : k ∈ c.keys := by simp [h]
  have hl := ho.len
  unfold Lru.touch
  rw [front_hit hm (by omega)]
  simp [gone, hm, h]
  cases c; simp_all
/-! ### LruSpec -/
theorem acc_num (c : DCache) (key : Int) : (check c ≠ 0 ∧ access c key = (zero, false, 0) ∧ accessErr c key = check c) ∨ (check c = 0 ∧ (key < 0 ∨ 1048576 < key) ∧ access c key = (zero, false, 0) ∧ accessErr c key = 3) ∨ (check c = 0 ∧ (0 ≤ key ∧ key ≤ 1048576) ∧ access c key = touch c key ∧ accessErr c key = 0) := by
  rcases acc_cases c key with h | ⟨a, b, d⟩ | ⟨a, b, d⟩
  · exact .inl h
  · refine .inr (.inl ⟨a, ?_, d⟩); simp [okKey] at b; omega
  · exact .inr (.inr ⟨a, key_ok b, d⟩)
theorem size_num (c : DCache) (room : Int) : (check c ≠ 0 ∧ resize c room = (zero, []) ∧ sizeErr c room = check c) ∨ (check c = 0 ∧ (room < 1 ∨ 40 < room) ∧ resize c room = (zero, []) ∧ sizeErr c room = 3) ∨ (check c = 0 ∧ (1 ≤ room ∧ room ≤ 40) ∧ resize c room = (⟨room, c.keys.take room.toNat⟩, (c.keys.drop room.toNat).reverse) ∧ sizeErr c room = 0) := by
  rcases size_cases c room with h | ⟨a, b, d⟩ | ⟨a, b, d⟩
  · exact .inl h
  · refine .inr (.inl ⟨a, ?_, d⟩); simp [okRoom] at b; omega
  · exact .inr (.inr ⟨a, room_ok b, d⟩)
structure ZInv (c : DCache) (room : Int) (sc : DCache) (less : List Int) : Prop where
  rm : sc.room = room
  rb : 1 ≤ room
  len : sc.keys.length + less.length = c.keys.length
  keys : sc.keys = c.keys.take sc.keys.length
  less_ : less = (c.keys.drop sc.keys.length).reverse
  few : less = [] ∨ room ≤ (sc.keys.length : Int)
theorem ZInv.start {c : DCache} {room : Int} (h : 1 ≤ room) : ZInv c room ⟨room, c.keys⟩ [] := ⟨rfl, h, by simp, by simp, by simp, .inl rfl⟩
theorem ZInv.next {c sc : DCache} {room : Int} {less : List Int} (h : ZInv c room sc less) (hl : room < (sc.keys.length : Int)) (hi : ((sc.keys.length : Int) - 1).toNat < sc.keys.length) : ZInv c room ⟨sc.room, sc.keys.take ((sc.keys.length : Int) - 1).toNat⟩ (less ++ [sc.keys[((sc.keys.length : Int) - 1).toNat]]) := by
  obtain ⟨a, b, l, k, e, f⟩ := h
  have e1 : ((sc.keys.length : Int) - 1).toNat = sc.keys.length - 1 := by omega
  have e2 : (sc.keys.take (sc.keys.length - 1)).length = sc.keys.length - 1 := by simp
  have hc : sc.keys.length - 1 < c.keys.length := by omega
  have hg : sc.keys[sc.keys.length - 1]'(by omega) = c.keys[sc.keys.length - 1] := by
    have : sc.keys[sc.keys.length - 1]'(by omega) = (c.keys.take sc.keys.length)[sc.keys.length - 1]'(by simp; omega) := by
      congr 1
    rw [this, List.getElem_take]
  simp only [e1]
  refine ⟨a, b, by simp only [List.length_append, List.length_singleton, e2]; omega, ?_, ?_, .inr (by simp only [e2]; omega)⟩
  · have hk := congrArg (List.take (sc.keys.length - 1)) k
    rw [List.take_take, Nat.min_eq_left (by omega)] at hk
    simp only [e2]; exact hk
  · simp only [e2, hg]
    rw [List.drop_eq_getElem_cons hc, List.reverse_cons, show sc.keys.length - 1 + 1 = sc.keys.length by omega, ← e]
theorem ZInv.done {c sc : DCache} {room : Int} {less : List Int} (h : ZInv c room sc less) (hl : (sc.keys.length : Int) ≤ room) : sc = ⟨room, c.keys.take room.toNat⟩ ∧ less = (c.keys.drop room.toNat).reverse := by
  obtain ⟨a, b, l, k, e, f⟩ := h
  have key : sc.keys = c.keys.take room.toNat ∧ less = (c.keys.drop room.toNat).reverse := by
    rcases f with f | f
    · subst f
      simp only [List.length_nil, Nat.add_zero] at l
      refine ⟨?_, ?_⟩
      · rw [k, l, List.take_of_length_le (Nat.le_refl _), List.take_of_length_le (by omega)]
      · rw [List.drop_of_length_le (by omega)]; rfl
    · have : sc.keys.length = room.toNat := by omega
      exact ⟨by rw [← this]; exact k, by rw [← this]; exact e⟩
  exact ⟨by cases sc; simp only at a key ⊢; rw [a, key.1], key.2⟩
end Go.Sx.Lru

/- Filters and a cache's keys. -/
namespace Go.Sx.Bl
theorem runGo_mem {x : Int} : ∀ {l : List Int} {c : DCache} {n : Int}, x ∈ (Lru.runGo c n l).1.keys → x ∈ c.keys ∨ x ∈ l
  | [], c, n, h => .inl h
  | k :: l, c, n, h => by
    rcases runGo_mem (l := l) h with h1 | h1
    · have h2 : x ∈ Lru.front c.room.toNat c.keys k := h1
      unfold Lru.front at h2
      rcases List.mem_cons.1 (List.mem_of_mem_take h2) with e | e
      · right; rw [e]; simp
      · left; exact List.mem_of_mem_erase e
    · right; simp [h1]
theorem run_mem {c : DCache} {l : List Int} (h : Lru.runErr c l = 0) {x : Int} (hx : x ∈ (Lru.run c l).1.keys) : x ∈ c.keys ∨ x ∈ l := by
  rw [show Lru.run c l = Lru.runGo c 0 l from if_pos h] at hx; exact runGo_mem hx
structure TI (l : List ByteArray) (f : DFilter) (keys : List Int) (names : List ByteArray) (i : Nat) : Prop where
  le : i ≤ l.length ∧ i ≤ 60
  kl : keys.length = i
  nl : names.length ≤ i
  kb : ∀ x ∈ keys, 0 ≤ x ∧ x < (names.length : Int)
  ok : ∀ s ∈ names, keyErr f s = 0 ∧ may f s = true
theorem TI.start (l : List ByteArray) (f : DFilter) : TI l f [] [] 0 := ⟨⟨Nat.zero_le _, by omega⟩, rfl, by simp, by simp, by simp⟩
theorem TI.old {l : List ByteArray} {f : DFilter} {keys : List Int} {names : List ByteArray} {i : Nat} (h : TI l f keys names i) (hi : i < l.length ∧ i < 60) (he : keyErr f (l.getD i default) = 0) {k : Int} (hk : 0 ≤ k ∧ k < (names.length : Int)) : TI l (add f (l.getD i default)) (keys ++ [k]) names (i + 1) := by
  refine ⟨by omega, by simp [h.kl], by have := h.nl; omega, fun x hx => ?_, fun s hs => may_add he (h.ok s hs).1 (.inl (h.ok s hs).2)⟩
  rcases List.mem_append.1 hx with e | e
  · exact h.kb x e
  · rw [List.mem_singleton.1 e]; exact hk
theorem TI.new {l : List ByteArray} {f : DFilter} {keys : List Int} {names : List ByteArray} {i : Nat} (h : TI l f keys names i) (hi : i < l.length ∧ i < 60) (he : keyErr f (l.getD i default) = 0) {k : Int} (hk : k = (names.length : Int)) : TI l (add f (l.getD i default)) (keys ++ [k]) (names ++ [l.getD i default]) (i + 1) := by
  refine ⟨by omega, by simp [h.kl], by have := h.nl; simp; omega, fun x hx => ?_, fun s hs => ?_⟩
  · rw [List.length_append, List.length_singleton]
    rcases List.mem_append.1 hx with e | e
    · have := h.kb x e; omega
    · rw [List.mem_singleton.1 e]; omega
  · rcases List.mem_append.1 hs with e | e
    · exact may_add he (h.ok s e).1 (.inl (h.ok s e).2)
    · rw [List.mem_singleton.1 e]; exact may_add he he (.inr rfl)
theorem TI.key {l : List ByteArray} {f : DFilter} {keys : List Int} {names : List ByteArray} {i : Nat} (h : TI l f keys names i) {room : Int} (he : Lru.runErr ⟨room, []⟩ keys = 0) {j : Nat} (hj : j < (Lru.run ⟨room, []⟩ keys).1.keys.length) : 0 ≤ (Lru.run ⟨room, []⟩ keys).1.keys.getD j default ∧ (Lru.run ⟨room, []⟩ keys).1.keys.getD j default < (names.length : Int) := by
  have hm := run_mem he (List.getElem_mem hj)
  rw [getd_at hj default] at hm
  rcases hm with q | q
  · cases q
  · exact h.kb _ q
theorem TI.at_ {l : List ByteArray} {f : DFilter} {keys : List Int} {names : List ByteArray} {i : Nat} (h : TI l f keys names i) {j : Nat} (hj : j < names.length) : keyErr f (names.getD j default) = 0 ∧ may f (names.getD j default) = true := by
  rw [← getd_at hj default]; exact h.ok _ (List.getElem_mem hj)
end Go.Sx.Bl
