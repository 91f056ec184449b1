/- Hash functions: the plain functions. -/
import Derived.Test.YtnmbkopnopaigaaSx10
namespace Go.Sx.Hash
def mix (n : UInt64) : UInt64 :=
  ((((n ^^^ shrU n 30) * 13787848793156543929) ^^^ shrU ((n ^^^ shrU n 30) * 13787848793156543929) 27) * 10723151780598845931) ^^^ shrU ((((n ^^^ shrU n 30) * 13787848793156543929) ^^^ shrU ((n ^^^ shrU n 30) * 13787848793156543929) 27) * 10723151780598845931) 31
def rawTo (s : ByteArray) : Nat → UInt64
  | 0 => 14695981039346656037
  | i + 1 => (rawTo s i ^^^ (byteAt s i).toUInt64) * 1099511628211
def raw (s : ByteArray) : UInt64 := rawTo s s.size
def sum (s : ByteArray) : UInt64 := if 40 < s.size then 0 else raw s
def sumErr (s : ByteArray) : Int := if 40 < s.size then 2 else 0
def undoTo (n : UInt64) (by_ : Nat) : Nat → UInt64
  | 0 => n
  | k + 1 => n ^^^ shrU (undoTo n by_ k) by_
def undo (n : UInt64) (by_ : Int) : UInt64 := undoTo n by_.toNat (64 / by_.toNat)
def invTo (n : UInt64) : Nat → UInt64
  | 0 => n
  | k + 1 => invTo n k * (2 - n * invTo n k)
def inverse (n : UInt64) : UInt64 := invTo n 5
def unmix (n : UInt64) : UInt64 := undo (undo (undo n 31 * inverse 10723151780598845931) 27 * inverse 13787848793156543929) 30
def rawFold (n : UInt64) (most : Int) : Int := IntKind.i64.wrap ((shrU (shrU n 32 * toU most) 32).toNat : Int)
def reduce (n : UInt64) (most : Int) : Int := if most < 1 ∨ 1048576 < most then 0 else rawFold n most
def reduceErr (most : Int) : Int := if most < 1 ∨ 1048576 < most then 3 else 0
def salted (s : ByteArray) (salt : UInt64) : UInt64 := if sumErr s = 0 then mix (sum s ^^^ salt) else 0
theorem half_step (n : UInt64) (i : Nat) : shrU n i / 2 = shrU n (i + 1) := by
  apply UInt64.toNat_inj.1
  rw [UInt64.toNat_div, shrU_toNat, shrU_toNat]
  show n.toNat / 2 ^ min i 64 / 2 = _
  have h := n.toNat_lt
  rcases Nat.lt_or_ge i 64 with h' | h'
  · rw [Nat.min_eq_left (by omega), Nat.min_eq_left (by omega), Nat.div_div_eq_div_mul, Nat.pow_succ]
  · rw [Nat.min_eq_right h', Nat.min_eq_right (by omega), Nat.div_eq_of_lt h]
theorem shrU_zero (n : UInt64) : shrU n 0 = n := by apply UInt64.toNat_inj.1; rw [shrU_toNat]; simp
theorem times_step (a b : UInt64) : a * b = (a + a) * (b / 2) + a * (b % 2) := by
  have h : b = 2 * (b / 2) + b % 2 := by
    apply UInt64.toNat_inj.1
    rw [UInt64.toNat_add, UInt64.toNat_mul, UInt64.toNat_div, UInt64.toNat_mod]
    have := b.toNat_lt
    show b.toNat = (2 * (b.toNat / 2) % 2 ^ 64 + b.toNat % 2) % 2 ^ 64
    omega
  have e : a + a = a * 2 := by
    apply UInt64.toNat_inj.1
    rw [UInt64.toNat_add, UInt64.toNat_mul]
    show _ = a.toNat * 2 % 2 ^ 64
    omega
  rw [e, UInt64.mul_assoc, ← UInt64.mul_add, ← h]
theorem undoBound {b : Int} (h : 1 ≤ b ∧ b ≤ 64) : IntKind.i64.wrap (Int.tdiv 64 b) = ((64 / b.toNat : Nat) : Int) := by
  have e : Int.tdiv 64 b = ((64 / b.toNat : Nat) : Int) := by
    rw [Int.tdiv_eq_ediv_of_nonneg (by omega), Int.natCast_ediv]; congr 1; omega
  have hl : 64 / b.toNat ≤ 64 := Nat.div_le_self _ _
  rw [e]
  generalize 64 / b.toNat = m at *
  rw [wrap_i64 (by omega)]
theorem times_odd {a b s t : UInt64} (hI : s + a * b = t) (h : b % 2 = 1) : s + a + (a + a) * (b / 2) = t := by
  rw [← hI, times_step a b, h, UInt64.mul_one, UInt64.add_assoc, UInt64.add_comm a]
theorem times_even {a b s t : UInt64} (hI : s + a * b = t) (h : ¬ b % 2 = 1) : s + (a + a) * (b / 2) = t := by
  have h0 : b % 2 = 0 := by
    apply UInt64.toNat_inj.1
    have h1 : ¬ (b % 2).toNat = 1 := fun e => h (UInt64.toNat_inj.1 e)
    rw [UInt64.toNat_mod] at h1 ⊢
    have : (2 : UInt64).toNat = 2 := rfl
    rw [this] at h1 ⊢
    show _ = 0
    omega
  rw [← hI, times_step a b, h0, UInt64.mul_zero, UInt64.add_zero]
theorem half_less {b : UInt64} (h : 0 < b) : (b / 2).toNat < b.toNat := by
  have h1 := UInt64.lt_iff_toNat_lt.1 h
  rw [UInt64.toNat_div]
  exact Nat.div_lt_self h1 (by decide)
theorem times_end {a b s t : UInt64} (hI : s + a * b = t) (h : ¬ 0 < b) : s = t := by
  have h0 : b = 0 := by
    apply UInt64.toNat_inj.1
    have : ¬ (0 : UInt64).toNat < b.toNat := fun e => h (UInt64.lt_iff_toNat_lt.2 e)
    show _ = 0
    have e0 : (0 : UInt64).toNat = 0 := rfl
    omega
  rw [← hI, h0, UInt64.mul_zero, UInt64.add_zero]
end Go.Sx.Hash
