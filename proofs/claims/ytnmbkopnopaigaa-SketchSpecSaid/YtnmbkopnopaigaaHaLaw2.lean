/- Hash functions: reducing, and sums of texts with one end. -/
import Derived.Test.YtnmbkopnopaigaaHaLaw
namespace Go.Sx.Hash
theorem rawFold_eq (n : UInt64) (m : Nat) (h : m ≤ 2097152) : rawFold n (m : Int) = ((n.toNat / 4294967296 * m / 4294967296 : Nat) : Int) := by
  have hn := n.toNat_lt
  have e1 : (shrU n 32).toNat = n.toNat / 4294967296 := by rw [shrU_toNat]; rfl
  have e2 : (toU (m : Int)).toNat = m := by have := toU_toNat (m : Int); omega
  have hb : n.toNat / 4294967296 < 4294967296 := by omega
  have hp : n.toNat / 4294967296 * m ≤ 4294967295 * 2097152 := Nat.mul_le_mul (by omega) h
  unfold rawFold
  rw [shrU_toNat, UInt64.toNat_mul, e1, e2]
  show IntKind.i64.wrap ((n.toNat / 4294967296 * m % 18446744073709551616 / 4294967296 : Nat) : Int) = _
  generalize hq : n.toNat / 4294967296 * m = q at *
  rw [Nat.mod_eq_of_lt (by omega), wrap_i64 (by omega)]
theorem reduce_at (n : UInt64) {most : Int} (h : 1 ≤ most ∧ most ≤ 1048576) : reduce n most = ((n.toNat / 4294967296 * most.toNat / 4294967296 : Nat) : Int) := by
  obtain ⟨m, rfl⟩ : ∃ m : Nat, most = m := ⟨most.toNat, by omega⟩
  rw [(reduce_ok n h).1, rawFold_eq n m (by omega), Int.toNat_natCast]
theorem reduce_law (a b : UInt64) (most : Int) (h : 1 ≤ most ∧ most ≤ 1048576) :
    0 ≤ reduce a most ∧ reduce a most < most ∧ (a ≤ b → reduce a most ≤ reduce b most) ∧ (reduceErr (2 * most) = 0 → (reduce a (2 * most)).tdiv 2 = reduce a most) ∧ reduce 0 most = 0 ∧ reduce 18446744073709551615 most = most - 1 := by
  have ha := a.toNat_lt
  have hb : a.toNat / 4294967296 < 4294967296 := by omega
  rw [reduce_at a h, reduce_at b h, reduce_at 0 h, reduce_at 18446744073709551615 h]
  obtain ⟨m, rfl⟩ : ∃ m : Nat, most = m := ⟨most.toNat, by omega⟩
  rw [Int.toNat_natCast]
  refine ⟨by omega, ?_, fun hab => ?_, fun h2 => ?_, ?_, ?_⟩
  · have : a.toNat / 4294967296 * m / 4294967296 < m := by
      apply Nat.div_lt_of_lt_mul
      exact Nat.mul_lt_mul_of_pos_right hb (by omega)
    omega
  · have := UInt64.le_iff_toNat_le.1 hab
    have : a.toNat / 4294967296 * m / 4294967296 ≤ b.toNat / 4294967296 * m / 4294967296 := Nat.div_le_div_right (Nat.mul_le_mul_right _ (Nat.div_le_div_right this))
    omega
  · rw [reduce_at a (reduceOk h2), show (2 * (m : Int)).toNat = 2 * m by omega]
    generalize a.toNat / 4294967296 = q at *
    rw [show q * (2 * m) = 2 * (q * m) by rw [Nat.mul_left_comm]]
    generalize q * m = r
    rw [Int.tdiv_eq_ediv_of_nonneg (by omega)]
    omega
  · show ((0 / 4294967296 * m / 4294967296 : Nat) : Int) = 0
    simp
  · show ((18446744073709551615 / 4294967296 * m / 4294967296 : Nat) : Int) = _
    omega
theorem reduce_zero {most : Int} (h : reduceErr most ≠ 0 ∨ reduceErr most ≠ 0) (n : UInt64) : reduce n most = 0 := by
  rcases reduce_cases n most with ⟨c, r1, r2⟩ | ⟨c, r1, r2⟩
  · exact r1
  · omega
theorem reduce_bool (a b : UInt64) {most : Int} (h : 1 ≤ most ∧ most ≤ 1048576) (h0 : reduceErr most = 0) :
    (decide (0 ≤ reduce a most) && decide (reduce a most < most) && (decide (b < a) || decide (reduce a most ≤ reduce b most)) && (reduceErr (IntKind.i64.wrap (2 * most)) != 0 || IntKind.i64.wrap ((reduce a (IntKind.i64.wrap (2 * most))).tdiv 2) == reduce a most) &&
      reduceErr most == 0 && reduce 0 most == 0 && reduceErr most == 0 && reduce 18446744073709551615 most == most - 1) = true := by
  obtain ⟨r1, r2, r3, r4, r5, r6⟩ := reduce_law a b most h
  rw [wrap_i64 (show -9223372036854775808 ≤ 2 * most ∧ 2 * most ≤ 9223372036854775807 by omega)]
  have e1 : (decide (b < a) || decide (reduce a most ≤ reduce b most)) = true := by
    by_cases hab : a ≤ b
    · simp [r3 hab]
    · simp [UInt64.not_le.1 hab]
  have e2 : (reduceErr (2 * most) != 0 || IntKind.i64.wrap ((reduce a (2 * most)).tdiv 2) == reduce a most) = true := by
    by_cases hg : reduceErr (2 * most) = 0
    · rw [r4 hg, wrap_i64 (by omega)]; simp
    · simp [hg]
  rw [e1, e2, h0, r5, r6]
  simp [r1, r2]
/-! ### Texts with one end -/
theorem step_inj {x y c : UInt64} (h : (x ^^^ c) * 1099511628211 = (y ^^^ c) * 1099511628211) : x = y := by
  have e : (1099511628211 : UInt64) * inverse 1099511628211 = 1 := by decide +kernel
  have h2 := congrArg (· * inverse 1099511628211) h
  simp only [UInt64.mul_assoc, e, UInt64.mul_one] at h2
  have h3 := congrArg (· ^^^ c) h2
  simpa only [UInt64.xor_assoc, UInt64.xor_self, UInt64.xor_zero] using h3
theorem byteAt_append_left (s t : ByteArray) {i : Nat} (h : i < s.size) : byteAt (s ++ t) i = byteAt s i := by
  unfold byteAt; rw [ByteArray.data_append]
  have : i < s.data.size := h
  simp only [Array.getD, Array.size_append, dif_pos this, dif_pos (show i < s.data.size + t.data.size by omega), Array.getInternal_eq_getElem, Array.getElem_append_left this]
theorem byteAt_append_right (s t : ByteArray) (i : Nat) : byteAt (s ++ t) (s.size + i) = byteAt t i := by
  unfold byteAt; rw [ByteArray.data_append]
  have : s.size = s.data.size := rfl
  rw [this]
  by_cases h : i < t.data.size
  · simp [Array.getD, h, Array.getElem_append_right]
  · simp [Array.getD, h]
theorem rawTo_left (s t : ByteArray) : ∀ i, i ≤ s.size → rawTo (s ++ t) i = rawTo s i
  | 0, _ => rfl
  | i + 1, h => by rw [rawTo, rawTo, rawTo_left s t i (by omega), byteAt_append_left s t (by omega)]
theorem raw_iff (s t m : ByteArray) : ∀ i, rawTo (s ++ m) (s.size + i) = rawTo (t ++ m) (t.size + i) ↔ raw s = raw t
  | 0 => by rw [Nat.add_zero, Nat.add_zero, rawTo_left s m _ (Nat.le_refl _), rawTo_left t m _ (Nat.le_refl _)]; rfl
  | i + 1 => by
    rw [← raw_iff s t m i]
    show (rawTo (s ++ m) (s.size + i) ^^^ (byteAt (s ++ m) (s.size + i)).toUInt64) * 1099511628211 = (rawTo (t ++ m) (t.size + i) ^^^ (byteAt (t ++ m) (t.size + i)).toUInt64) * 1099511628211 ↔ _
    rw [byteAt_append_right, byteAt_append_right]
    exact ⟨step_inj, fun h => by rw [h]⟩
theorem size_append (s t : ByteArray) : (s ++ t).size = s.size + t.size := ByteArray.size_append
theorem raw_append_iff (s t m : ByteArray) : raw (s ++ m) = raw (t ++ m) ↔ raw s = raw t := by
  unfold raw; rw [size_append, size_append]; exact raw_iff s t m m.size
theorem raw_one {s t : ByteArray} (hs : s.size = 1) (ht : t.size = 1) (h : raw s = raw t) : s = t := by
  unfold raw at h; rw [hs, ht] at h
  have h1 : (14695981039346656037 ^^^ (byteAt s 0).toUInt64) * 1099511628211 = (14695981039346656037 ^^^ (byteAt t 0).toUInt64) * (1099511628211 : UInt64) := h
  rw [UInt64.xor_comm _ (byteAt s 0).toUInt64, UInt64.xor_comm _ (byteAt t 0).toUInt64] at h1
  have h2 := step_inj h1
  have h3 : byteAt s 0 = byteAt t 0 := by
    apply UInt8.toNat_inj.1
    have := congrArg UInt64.toNat h2
    simpa using this
  apply ByteArray.ext
  have hs' : s.data.size = 1 := hs
  have ht' : t.data.size = 1 := ht
  apply Array.ext
  · rw [hs', ht']
  · intro i hi hj
    obtain rfl : i = 0 := by omega
    unfold byteAt at h3
    simpa [Array.getD, hs', ht'] using h3
theorem sum_of {s : ByteArray} (h : sumErr s = 0) : sum s = raw s ∧ s.size ≤ 40 := by
  unfold sumErr at h; split at h
  · cases h
  · exact ⟨if_neg (by assumption), by omega⟩
theorem suffix_law {s t m : ByteArray} (h1 : sumErr s = 0) (h2 : sumErr t = 0) (h3 : sumErr (s ++ m) = 0) (h4 : sumErr (t ++ m) = 0) :
    (sum s == sum t) = (sum (s ++ m) == sum (t ++ m)) ∧ (s.size = 1 → t.size = 1 → s ≠ t → sum s ≠ sum t) := by
  rw [(sum_of h1).1, (sum_of h2).1, (sum_of h3).1, (sum_of h4).1]
  refine ⟨?_, fun a b c d => c (raw_one a b d)⟩
  rw [Bool.eq_iff_iff, beq_iff_eq, beq_iff_eq, raw_append_iff]
theorem suffix_bool {s t m : ByteArray} (h1 : sumErr s = 0) (h2 : sumErr t = 0) (h3 : sumErr (s ++ m) = 0) (h4 : sumErr (t ++ m) = 0) :
    ((sum s == sum t) == (sum (s ++ m) == sum (t ++ m)) && ((s.size : Int) != 1 || (t.size : Int) != 1 || decide (s = t) || sum s != sum t)) = true := by
  obtain ⟨l1, l2⟩ := suffix_law h1 h2 h3 h4
  rw [l1]
  by_cases a : s.size = 1
  · by_cases b : t.size = 1
    · by_cases c : s = t
      · simp [c]
      · simp [l2 a b c, bne]
    · have e : ((t.size : Int) != 1) = true := by rw [bne_iff_ne]; omega
      rw [e]; simp
  · have e : ((s.size : Int) != 1) = true := by rw [bne_iff_ne]; omega
    rw [e]; simp
end Go.Sx.Hash
