/- Hash functions: the plain functions. -/
import Derived.Test.YtnmbkopnopaigaaSx1M11
import Derived.Test.YtnmbkopnopaigaaSx31M2
import Derived.Test.YtnmbkopnopaigaaSx12M17
namespace Go.Sx.Hash
def mix (n : UInt64) : UInt64 :=
  ((((n ^^^ shrU n 30) * 13787848793156543929) ^^^ shrU ((n ^^^ shrU n 30) * 13787848793156543929) 27) * 10723151780598845931) ^^^ shrU ((((n ^^^ shrU n 30) * 13787848793156543929) ^^^ shrU ((n ^^^ shrU n 30) * 13787848793156543929) 27) * 10723151780598845931) 31
def rawTo (s : ByteArray) : Nat → UInt64
  | 0 => 14695981039346656037
  | i + 1 => (rawTo s i ^^^ (byteAt s i).toUInt64) * 1099511628211
def raw (s : ByteArray) : UInt64 := rawTo s s.size
def sum (s : ByteArray) : UInt64 := if 40 < s.size then 0 else raw s
def sumErr (s : ByteArray) : Int := if 40 < s.size then 2 else 0
def undoTo (n : UInt64) (by_ : Nat) : Nat → UInt64
  | 0 => n
  | k + 1 => n ^^^ shrU (undoTo n by_ k) by_
def undo (n : UInt64) (by_ : Int) : UInt64 := undoTo n by_.toNat (64 / by_.toNat)
def invTo (n : UInt64) : Nat → UInt64
  | 0 => n
  | k + 1 => invTo n k * (2 - n * invTo n k)
def inverse (n : UInt64) : UInt64 := invTo n 5
def unmix (n : UInt64) : UInt64 := undo (undo (undo n 31 * inverse 10723151780598845931) 27 * inverse 13787848793156543929) 30
def rawFold (n : UInt64) (most : Int) : Int := IntKind.i64.wrap ((shrU (shrU n 32 * toU most) 32).toNat : Int)
def reduce (n : UInt64) (most : Int) : Int := if most < 1 ∨ 1048576 < most then 0 else rawFold n most
def reduceErr (most : Int) : Int := if most < 1 ∨ 1048576 < most then 3 else 0
def salted (s : ByteArray) (salt : UInt64) : UInt64 := if sumErr s = 0 then mix (sum s ^^^ salt) else 0
theorem half_step (n : UInt64) (i : Nat) : shrU n i / 2 = shrU n (i + 1) := by
  apply UInt64.toNat_inj.1
  rw [UInt64.toNat_div, shrU_toNat, shrU_toNat]
  show n.toNat / 2 ^ min i 64 / 2 = _
  have h := n.toNat_lt
  rcases Nat.lt_or_ge i 64 with h' | h'
  · rw [Nat.min_eq_left (by omega), Nat.min_eq_left (by omega), Nat.div_div_eq_div_mul, Nat.pow_succ]
  · rw [Nat.min_eq_right h', Nat.min_eq_right (by omega), Nat.div_eq_of_lt h]
theorem shrU_zero (n : UInt64) : shrU n 0 = n := by apply UInt64.toNat_inj.1; rw [shrU_toNat]; simp
theorem times_step (a b : UInt64) : a * b = (a + a) * (b / 2) + a * (b % 2) := by
  have h : b = 2 * (b / 2) + b % 2 := by
    apply UInt64.toNat_inj.1
    rw [UInt64.toNat_add, UInt64.toNat_mul, UInt64.toNat_div, UInt64.toNat_mod]
    have := b.toNat_lt
    show b.toNat = (2 * (b.toNat / 2) % 2 ^ 64 + b.toNat % 2) % 2 ^ 64
    omega
  have e : a + a = a * 2 := by
    apply UInt64.toNat_inj.1
    rw [UInt64.toNat_add, UInt64.toNat_mul]
    show _ = a.toNat * 2 % 2 ^ 64
    omega
  rw [e, UInt64.mul_assoc, ← UInt64.mul_add, ← h]
theorem undoBound {b : Int} (h : 1 ≤ b ∧ b ≤ 64) : IntKind.i64.wrap (Int.tdiv 64 b) = ((64 / b.toNat : Nat) : Int) := by
  have e : Int.tdiv 64 b = ((64 / b.toNat : Nat) : Int) := by
    rw [Int.tdiv_eq_ediv_of_nonneg (by omega), Int.natCast_ediv]; congr 1; omega
  have hl : 64 / b.toNat ≤ 64 := Nat.div_le_self _ _
  rw [e]
  generalize 64 / b.toNat = m at *
  rw [wrap_i64 (by omega)]
theorem times_odd {a b s t : UInt64} (hI : s + a * b = t) (h : b % 2 = 1) : s + a + (a + a) * (b / 2) = t := by
  rw [← hI, times_step a b, h, UInt64.mul_one, UInt64.add_assoc, UInt64.add_comm a]
theorem times_even {a b s t : UInt64} (hI : s + a * b = t) (h : ¬ b % 2 = 1) : s + (a + a) * (b / 2) = t := by
  have h0 : b % 2 = 0 := by
    apply UInt64.toNat_inj.1
    have h1 : ¬ (b % 2).toNat = 1 := fun e => h (UInt64.toNat_inj.1 e)
    rw [UInt64.toNat_mod] at h1 ⊢
    have : (2 : UInt64).toNat = 2 := rfl
    rw [this] at h1 ⊢
    show _ = 0
    omega
  rw [← hI, times_step a b, h0, UInt64.mul_zero, UInt64.add_zero]
theorem half_less {b : UInt64} (h : 0 < b) : (b / 2).toNat < b.toNat := by
  have h1 := UInt64.lt_iff_toNat_lt.1 h
  rw [UInt64.toNat_div]
  exact Nat.div_lt_self h1 (by decide)
theorem times_end {a b s t : UInt64} (hI : s + a * b = t) (h : ¬ 0 < b) : s = t := by
  have h0 : b = 0 := by
    apply UInt64.toNat_inj.1
    have : ¬ (0 : UInt64).toNat < b.toNat := fun e => h (UInt64.lt_iff_toNat_lt.2 e)
    show _ = 0
    have e0 : (0 : UInt64).toNat = 0 := rfl
    omega
  rw [← hI, h0, UInt64.mul_zero, UInt64.add_zero]
end Go.Sx.Hash

/- Sketches: the plain functions. -/
namespace Go.Sx
structure DSketch where
  wide : Int
  counts : List (List Int)
deriving DecidableEq
/-- a sketch as it stands in a list of sketches -/
structure SkHdr where
  wide : Int
  a : Option Addr
  len : Nat
  cap : Nat
def tSkHdr : Ty SkHdr := ⟨2, fun h => [.int .i64 h.wide, .slice h.a h.len h.cap], fun _ => rfl⟩
namespace Sk
def zero : DSketch := ⟨0, []⟩
def sum (l : List Int) : Int := l.sum
def okN (n : Int) : Bool := decide (0 ≤ n) && decide (n ≤ 1099511627776)
def rowErr (l : List Int) (wide : Int) : Int := if (l.length : Int) ≠ wide then 1 else if l.any (fun n => !okN n) then 3 else 0
def rowsErr : List (List Int) → Int → Int
  | [], _ => 0
  | l :: r, wide => if rowErr l wide ≠ 0 then rowErr l wide else rowsErr r wide
def even (rows : List (List Int)) : Bool := !rows.any (fun l => sum l != sum (rows.getD 0 []))
def check (s : DSketch) : Int := if s.counts.length = 0 then 1 else if 6 < s.counts.length then 2 else if s.wide < 1 ∨ 64 < s.wide then 3 else
  if rowsErr s.counts s.wide ≠ 0 then rowsErr s.counts s.wide else if even s.counts then 0 else 4
def keyErr (s : DSketch) (key : ByteArray) : Int := if check s ≠ 0 then check s else Hash.sumErr key
def place (key : ByteArray) (row wide : Int) : Int := Hash.rawFold (Hash.salted key (toU row)) wide
def mapRow (f : Int → Int → Int → Int) (r : Nat) (l : List Int) : List Int := l.mapIdx fun i n => f r i n
def mapRows (f : Int → Int → Int → Int) (rows : List (List Int)) : List (List Int) := rows.mapIdx fun r l => mapRow f r l
def fitsRow (l : List Int) : Bool := l.all fun n => decide (n ≤ 1099511627776)
def fits (rows : List (List Int)) : Bool := rows.all fitsRow
def mapOk (f : Int → Int → Int → Int) (s : DSketch) : Bool := fits (mapRows f s.counts)
def mapS (f : Int → Int → Int → Int) (s : DSketch) : DSketch := if mapOk f s then ⟨s.wide, mapRows f s.counts⟩ else zero
/-- what Check says of a sketch that it finds right -/
structure Form (s : DSketch) : Prop where
  pos : 1 ≤ s.counts.length
  few : s.counts.length ≤ 6
  w1 : 1 ≤ s.wide
  w2 : s.wide ≤ 64
  len : ∀ l ∈ s.counts, (l.length : Int) = s.wide
  bd : ∀ l ∈ s.counts, ∀ n ∈ l, 0 ≤ n ∧ n ≤ 1099511627776
structure Ok (s : DSketch) : Prop extends Form s where
  same : ∀ l ∈ s.counts, sum l = sum (s.counts.getD 0 [])
def addF (key : ByteArray) (wide many : Int) (r i n : Int) : Int := if i = place key r wide then IntKind.i64.wrap (n + many) else n
def addErr (s : DSketch) (key : ByteArray) (many : Int) : Int := if keyErr s key ≠ 0 then keyErr s key else if many < 1 ∨ 1099511627776 < many then 3 else if mapOk (addF key s.wide many) s then 0 else 8
def add (s : DSketch) (key : ByteArray) (many : Int) : DSketch := if addErr s key many = 0 then mapS (addF key s.wide many) s else zero
def at_ (s : DSketch) (key : ByteArray) (r : Nat) : Int := (s.counts.getD r []).getD (place key r s.wide).toNat default
def leastTo (s : DSketch) (key : ByteArray) : Nat → Int
  | 0 => at_ s key 0
  | k + 1 => min (leastTo s key k) (at_ s key k)
def est (s : DSketch) (key : ByteArray) : Int := if keyErr s key = 0 then leastTo s key s.counts.length else 0
def mrgF (b : List (List Int)) (r i n : Int) : Int := IntKind.i64.wrap (n + (b.getD r.toNat []).getD i.toNat default)
def mrgErr (a b : DSketch) : Int := if check a ≠ 0 then check a else if check b ≠ 0 then check b else if a.wide ≠ b.wide ∨ a.counts.length ≠ b.counts.length then 7 else if mapOk (mrgF b.counts) a then 0 else 8
def merge (a b : DSketch) : DSketch := if mrgErr a b = 0 then mapS (mrgF b.counts) a else zero
def halfF (_r _i n : Int) : Int := n.tdiv 2
def halfErr (s : DSketch) : Int := if check s ≠ 0 then check s else if even (mapRows halfF s.counts) then 0 else 4
def halve (s : DSketch) : DSketch := if halfErr s = 0 then mapS halfF s else zero
def total (s : DSketch) : Int := if check s = 0 then sum (s.counts.getD 0 []) else 0
theorem sum_take {l : List Int} {k : Nat} (h : k < l.length) : sum (l.take (k + 1)) = sum (l.take k) + l.getD k default := by
  unfold sum
  rw [List.take_succ_eq_append_getElem h, List.sum_append]
  simp [List.getD_eq_getElem?_getD, h]
theorem sum_bd {l : List Int} (h : ∀ n ∈ l, 0 ≤ n ∧ n ≤ 1099511627776) : 0 ≤ sum l ∧ sum l ≤ 1099511627776 * (l.length : Int) := by
  unfold sum
  induction l with
  | nil => simp
  | cons x l ih =>
    have h1 := h x (by simp)
    have h2 := ih fun n hn => h n (by simp [hn])
    simp only [List.sum_cons, List.length_cons]
    omega
theorem getD_mem {α : Type} {l : List α} {i : Nat} {d : α} (h : i < l.length) : l.getD i d ∈ l := by
  rw [List.getD_eq_getElem?_getD, List.getElem?_eq_getElem h]; exact List.getElem_mem h
theorem okN_iff {n : Int} : okN n = true ↔ 0 ≤ n ∧ n ≤ 1099511627776 := by simp [okN]
theorem rowErr0 {l : List Int} {w : Int} : rowErr l w = 0 ↔ (l.length : Int) = w ∧ ∀ n ∈ l, 0 ≤ n ∧ n ≤ 1099511627776 := by
  unfold rowErr
  split
  · rename_i h; simp; intro h2; exact absurd h2 h
  · rename_i h
    split
    · rename_i h2
      refine ⟨fun h => (by cases h), fun h3 => ?_⟩
      obtain ⟨n, hn, h4⟩ := List.any_eq_true.1 h2
      have := okN_iff.2 (h3.2 n hn)
      simp [this] at h4
    · rename_i h2
      refine ⟨fun _ => ⟨by simpa using h, fun n hn => ?_⟩, fun _ => rfl⟩
      cases h5 : okN n with
      | true => exact okN_iff.1 h5
      | false => exact absurd (List.any_eq_true.2 ⟨n, hn, by simp [h5]⟩) h2
theorem rowsErr0 {rows : List (List Int)} {w : Int} : rowsErr rows w = 0 ↔ ∀ l ∈ rows, rowErr l w = 0 := by
  induction rows with
  | nil => simp [rowsErr]
  | cons l r ih =>
    unfold rowsErr
    by_cases h : rowErr l w = 0
    · rw [if_neg (by simpa using h), ih]; simp [h]
    · rw [if_pos h]; simp [h]
theorem even_iff {rows : List (List Int)} : even rows = true ↔ ∀ l ∈ rows, sum l = sum (rows.getD 0 []) := by
  unfold even
  rw [Bool.not_eq_true', List.any_eq_false]
  simp
theorem check_ok {s : DSketch} : check s = 0 ↔ Ok s := by
  unfold check
  constructor
  · intro h
    split at h; · cases h
    split at h; · cases h
    split at h; · cases h
    rename_i h1 h2 h3
    split at h
    · rename_i h4; exact absurd h h4
    rename_i h4
    split at h
    · rename_i h5
      have h4' : rowsErr s.counts s.wide = 0 := by simpa using h4
      have h6 := fun l hl => rowErr0.1 (rowsErr0.1 h4' l hl)
      exact ⟨⟨by omega, by omega, by omega, by omega, fun l hl => (h6 l hl).1, fun l hl => (h6 l hl).2⟩, even_iff.1 h5⟩
    · cases h
  · intro h
    have h1 := h.pos; have h2 := h.few; have h3 := h.w1; have h4 := h.w2
    rw [if_neg (by omega), if_neg (by omega), if_neg (by omega), if_neg (by simpa using rowsErr0.2 fun l hl => rowErr0.2 ⟨h.len l hl, h.bd l hl⟩), if_pos (even_iff.2 h.same)]
end Sk
end Go.Sx

/- Hash functions: the plain laws. -/
namespace Go.Sx.Hash
theorem sum_long {s : ByteArray} (salt : UInt64) (h : 40 < s.size) : sum s = 0 ∧ sumErr s = 2 ∧ salted s salt = 0 := by
  have e : sumErr s = 2 := if_pos h
  exact ⟨if_pos h, e, by unfold salted; rw [e]; rfl⟩
theorem sum_short {s : ByteArray} (salt : UInt64) (h : ¬ 40 < s.size) : sum s = raw s ∧ sumErr s = 0 ∧ salted s salt = mix (raw s ^^^ salt) := by
  have e : sumErr s = 0 := if_neg h
  have e2 : sum s = raw s := if_neg h
  exact ⟨e2, e, by unfold salted; rw [e, e2]; rfl⟩
theorem reduce_bad (n : UInt64) {most : Int} (h : most < 1 ∨ 1048576 < most) : reduce n most = 0 ∧ reduceErr most = 3 := ⟨if_pos h, if_pos h⟩
theorem reduce_ok (n : UInt64) {most : Int} (h : 1 ≤ most ∧ most ≤ 1048576) : reduce n most = rawFold n most ∧ reduceErr most = 0 := ⟨if_neg (by omega), if_neg (by omega)⟩
theorem sum_cases (s : ByteArray) (salt : UInt64) : (40 < s.size ∧ sum s = 0 ∧ sumErr s = 2 ∧ salted s salt = 0) ∨ (¬ 40 < s.size ∧ sum s = raw s ∧ sumErr s = 0 ∧ salted s salt = mix (raw s ^^^ salt)) := by
  by_cases h : 40 < s.size
  · exact Or.inl ⟨h, sum_long salt h⟩
  · exact Or.inr ⟨h, sum_short salt h⟩
theorem reduce_cases (n : UInt64) (most : Int) : ((most < 1 ∨ 1048576 < most) ∧ reduce n most = 0 ∧ reduceErr most = 3) ∨ ((1 ≤ most ∧ most ≤ 1048576) ∧ reduce n most = rawFold n most ∧ reduceErr most = 0) := by
  by_cases h : most < 1 ∨ 1048576 < most
  · exact Or.inl ⟨h, reduce_bad n h⟩
  · exact Or.inr ⟨by omega, reduce_ok n (by omega)⟩
theorem reduceOk {most : Int} (h : reduceErr most = 0) : 1 ≤ most ∧ most ≤ 1048576 := by
  unfold reduceErr at h; split at h
  · cases h
  · omega

/-! ### Undoing a mix -/
theorem shrU_xor (a b : UInt64) (k : Nat) : shrU (a ^^^ b) k = shrU a k ^^^ shrU b k := by
  apply UInt64.toNat_inj.1
  rw [shrU_toNat, UInt64.toNat_xor, UInt64.toNat_xor, shrU_toNat, shrU_toNat, ← Nat.shiftRight_eq_div_pow, ← Nat.shiftRight_eq_div_pow, ← Nat.shiftRight_eq_div_pow, Nat.shiftRight_xor_distrib]
theorem shrU_big (a : UInt64) {k : Nat} (h : 64 ≤ k) : shrU a k = 0 := by
  apply UInt64.toNat_inj.1
  rw [shrU_toNat, Nat.min_eq_right h, Nat.div_eq_of_lt a.toNat_lt]; rfl
theorem shrU_shrU (a : UInt64) (i j : Nat) : shrU (shrU a i) j = shrU a (i + j) := by
  rcases Nat.lt_or_ge (i + j) 64 with h | h
  · apply UInt64.toNat_inj.1
    rw [shrU_toNat, shrU_toNat, shrU_toNat, Nat.min_eq_left (by omega), Nat.min_eq_left (by omega), Nat.min_eq_left (by omega), Nat.div_div_eq_div_mul, ← Nat.pow_add]
  · rw [shrU_big a h]
    apply UInt64.toNat_inj.1
    rw [shrU_toNat, shrU_toNat]
    show _ = 0
    rw [Nat.div_div_eq_div_mul, ← Nat.pow_add]
    apply Nat.div_eq_of_lt
    exact Nat.lt_of_lt_of_le a.toNat_lt (Nat.pow_le_pow_right (by decide) (by omega))
def fwd (k : Nat) (x : UInt64) : UInt64 := x ^^^ shrU x k
def back (k : Nat) (n : UInt64) : UInt64 := n ^^^ shrU (n ^^^ shrU n k) k
theorem back_fwd (k : Nat) (h : 64 ≤ 3 * k) (x : UInt64) : back k (fwd k x) = x := by
  unfold back fwd
  rw [shrU_xor, shrU_xor, shrU_xor, shrU_shrU, shrU_shrU, shrU_big x (k := k + k + k) (by omega)]
  rw [UInt64.xor_zero]
  generalize shrU x k = b
  generalize shrU x (k + k) = c
  rw [UInt64.xor_assoc x b, show (b ^^^ (b ^^^ c ^^^ c)) = 0 by rw [UInt64.xor_assoc b c c, UInt64.xor_self, UInt64.xor_zero, UInt64.xor_self], UInt64.xor_zero]
theorem fwd_back (k : Nat) (h : 64 ≤ 3 * k) (n : UInt64) : fwd k (back k n) = n := by
  unfold back fwd
  rw [shrU_xor, shrU_shrU, shrU_xor, shrU_xor, shrU_shrU, shrU_shrU, shrU_big n (k := k + k + k) (by omega)]
  rw [UInt64.xor_zero]
  generalize shrU n k = b
  generalize shrU n (k + k) = c
  rw [UInt64.xor_assoc n, UInt64.xor_self, UInt64.xor_zero]
theorem undo_back (n : UInt64) (k : Int) (h : k = 31 ∨ k = 27 ∨ k = 30) : undo n k = back k.toNat n := by
  rcases h with rfl | rfl | rfl <;> rfl
theorem one_inv : (13787848793156543929 : UInt64) * inverse 13787848793156543929 = 1 := by decide +kernel
theorem two_inv : (10723151780598845931 : UInt64) * inverse 10723151780598845931 = 1 := by decide +kernel
theorem mix_eq (n : UInt64) : mix n = fwd 31 (fwd 27 (fwd 30 n * 13787848793156543929) * 10723151780598845931) := rfl
theorem unmix_eq (n : UInt64) : unmix n = back 30 (back 27 (back 31 n * inverse 10723151780598845931) * inverse 13787848793156543929) := rfl
theorem unmix_mix (n : UInt64) : unmix (mix n) = n := by
  rw [mix_eq, unmix_eq, back_fwd 31 (by decide), UInt64.mul_assoc, two_inv, UInt64.mul_one, back_fwd 27 (by decide), UInt64.mul_assoc, one_inv, UInt64.mul_one, back_fwd 30 (by decide)]
theorem mix_unmix (n : UInt64) : mix (unmix n) = n := by
  rw [mix_eq, unmix_eq, fwd_back 30 (by decide), UInt64.mul_assoc, UInt64.mul_comm (inverse 13787848793156543929), one_inv, UInt64.mul_one, fwd_back 27 (by decide), UInt64.mul_assoc, UInt64.mul_comm (inverse 10723151780598845931), two_inv, UInt64.mul_one, fwd_back 31 (by decide)]
theorem mix_inj (a b : UInt64) : (mix a == mix b) = (a == b) := by
  rw [Bool.eq_iff_iff, beq_iff_eq, beq_iff_eq]
  exact ⟨fun h => by rw [← unmix_mix a, ← unmix_mix b, h], fun h => by rw [h]⟩
end Go.Sx.Hash

/- Hash functions: reducing, and sums of texts with one end. -/
namespace Go.Sx.Hash
theorem rawFold_eq (n : UInt64) (m : Nat) (h : m ≤ 2097152) : rawFold n (m : Int) = ((n.toNat / 4294967296 * m / 4294967296 : Nat) : Int) := by
  have hn := n.toNat_lt
  have e1 : (shrU n 32).toNat = n.toNat / 4294967296 := by rw [shrU_toNat]; rfl
  have e2 : (toU (m : Int)).toNat = m := by have := toU_toNat (m : Int); omega
  have hb : n.toNat / 4294967296 < 4294967296 := by omega
  have hp : n.toNat / 4294967296 * m ≤ 4294967295 * 2097152 := Nat.mul_le_mul (by omega) h
  unfold rawFold
  rw [shrU_toNat, UInt64.toNat_mul, e1, e2]
  show IntKind.i64.wrap ((n.toNat / 4294967296 * m % 18446744073709551616 / 4294967296 : Nat) : Int) = _
  generalize hq : n.toNat / 4294967296 * m = q at *
  rw [Nat.mod_eq_of_lt (by omega), wrap_i64 (by omega)]
theorem reduce_at (n : UInt64) {most : Int} (h : 1 ≤ most ∧ most ≤ 1048576) : reduce n most = ((n.toNat / 4294967296 * most.toNat / 4294967296 : Nat) : Int) := by
  obtain ⟨m, rfl⟩ : ∃ m : Nat, most = m := ⟨most.toNat, by omega⟩
  rw [(reduce_ok n h).1, rawFold_eq n m (by omega), Int.toNat_natCast]
theorem reduce_law (a b : UInt64) (most : Int) (h : 1 ≤ most ∧ most ≤ 1048576) :
    0 ≤ reduce a most ∧ reduce a most < most ∧ (a ≤ b → reduce a most ≤ reduce b most) ∧ (reduceErr (2 * most) = 0 → (reduce a (2 * most)).tdiv 2 = reduce a most) ∧ reduce 0 most = 0 ∧ reduce 18446744073709551615 most = most - 1 := by
  have ha := a.toNat_lt
  have hb : a.toNat / 4294967296 < 4294967296 := by omega
  rw [reduce_at a h, reduce_at b h, reduce_at 0 h, reduce_at 18446744073709551615 h]
  obtain ⟨m, rfl⟩ : ∃ m : Nat, most = m := ⟨most.toNat, by omega⟩
  rw [Int.toNat_natCast]
  refine ⟨by omega, ?_, fun hab => ?_, fun h2 => ?_, ?_, ?_⟩
  · have : a.toNat / 4294967296 * m / 4294967296 < m := by
      apply Nat.div_lt_of_lt_mul
      exact Nat.mul_lt_mul_of_pos_right hb (by omega)
    omega
  · have := UInt64.le_iff_toNat_le.1 hab
    have : a.toNat / 4294967296 * m / 4294967296 ≤ b.toNat / 4294967296 * m / 4294967296 := Nat.div_le_div_right (Nat.mul_le_mul_right _ (Nat.div_le_div_right this))
    omega
  · rw [reduce_at a (reduceOk h2), show (2 * (m : Int)).toNat = 2 * m by omega]
    generalize a.toNat / 4294967296 = q at *
    rw [show q * (2 * m) = 2 * (q * m) by rw [Nat.mul_left_comm]]
    generalize q * m = r
    rw [Int.tdiv_eq_ediv_of_nonneg (by omega)]
    omega
  · show ((0 / 4294967296 * m / 4294967296 : Nat) : Int) = 0
    simp
  · show ((18446744073709551615 / 4294967296 * m / 4294967296 : Nat) : Int) = _
    omega
theorem reduce_zero {most : Int} (h : reduceErr most ≠ 0 ∨ reduceErr most ≠ 0) (n : UInt64) : reduce n most = 0 := by
  rcases reduce_cases n most with ⟨c, r1, r2⟩ | ⟨c, r1, r2⟩
  · exact r1
  · omega
theorem reduce_bool (a b : UInt64) {most : Int} (h : 1 ≤ most ∧ most ≤ 1048576) (h0 : reduceErr most = 0) :
    (decide (0 ≤ reduce a most) && decide (reduce a most < most) && (decide (b < a) || decide (reduce a most ≤ reduce b most)) && (reduceErr (IntKind.i64.wrap (2 * most)) != 0 || IntKind.i64.wrap ((reduce a (IntKind.i64.wrap (2 * most))).tdiv 2) == reduce a most) &&
      reduceErr most == 0 && reduce 0 most == 0 && reduceErr most == 0 && reduce 18446744073709551615 most == most - 1) = true := by
  obtain ⟨r1, r2, r3, r4, r5, r6⟩ := reduce_law a b most h
  rw [wrap_i64 (show -9223372036854775808 ≤ 2 * most ∧ 2 * most ≤ 9223372036854775807 by omega)]
  have e1 : (decide (b < a) || decide (reduce a most ≤ reduce b most)) = true := by
    by_cases hab : a ≤ b
    · simp [r3 hab]
    · simp [UInt64.not_le.1 hab]
  have e2 : (reduceErr (2 * most) != 0 || IntKind.i64.wrap ((reduce a (2 * most)).tdiv 2) == reduce a most) = true := by
    by_cases hg : reduceErr (2 * most) = 0
    · rw [r4 hg, wrap_i64 (by omega)]; simp
    · simp [hg]
  rw [e1, e2, h0, r5, r6]
  simp [r1, r2]
/-! ### Texts with one end -/
theorem step_inj {x y c : UInt64} (h : (x ^^^ c) * 1099511628211 = (y ^^^ c) * 1099511628211) : x = y := by
  have e : (1099511628211 : UInt64) * inverse 1099511628211 = 1 := by decide +kernel
  have h2 := congrArg (· * inverse 1099511628211) h
  simp only [UInt64.mul_assoc, e, UInt64.mul_one] at h2
  have h3 := congrArg (· ^^^ c) h2
  simpa only [UInt64.xor_assoc, UInt64.xor_self, UInt64.xor_zero] using h3
theorem byteAt_append_left (s t : ByteArray) {i : Nat} (h : i < s.size) : byteAt (s ++ t) i = byteAt s i := by
  unfold byteAt; rw [ByteArray.data_append]
  have : i < s.data.size := h
  simp only [Array.getD, Array.size_append, dif_pos this, dif_pos (show i < s.data.size + t.data.size by omega), Array.getInternal_eq_getElem, Array.getElem_append_left this]
theorem byteAt_append_right (s t : ByteArray) (i : Nat) : byteAt (s ++ t) (s.size + i) = byteAt t i := by
  unfold byteAt; rw [ByteArray.data_append]
  have : s.size = s.data.size := rfl
  rw [this]
  by_cases h : i < t.data.size
  · simp [Array.getD, h, Array.getElem_append_right]
  · simp [Array.getD, h]
theorem rawTo_left (s t : ByteArray) : ∀ i, i ≤ s.size → rawTo (s ++ t) i = rawTo s i
  | 0, _ => rfl
  | i + 1, h => by rw [rawTo, rawTo, rawTo_left s t i (by omega), byteAt_append_left s t (by omega)]
theorem raw_iff (s t m : ByteArray) : ∀ i, rawTo (s ++ m) (s.size + i) = rawTo (t ++ m) (t.size + i) ↔ raw s = raw t
  | 0 => by rw [Nat.add_zero, Nat.add_zero, rawTo_left s m _ (Nat.le_refl _), rawTo_left t m _ (Nat.le_refl _)]; rfl
  | i + 1 => by
    rw [← raw_iff s t m i]
    show (rawTo (s ++ m) (s.size + i) ^^^ (byteAt (s ++ m) (s.size + i)).toUInt64) * 1099511628211 = (rawTo (t ++ m) (t.size + i) ^^^ (byteAt (t ++ m) (t.size + i)).toUInt64) * 1099511628211 ↔ _
    rw [byteAt_append_right, byteAt_append_right]
    exact ⟨step_inj, fun h => by rw [h]⟩
theorem size_append (s t : ByteArray) : (s ++ t).size = s.size + t.size := ByteArray.size_append
theorem raw_append_iff (s t m : ByteArray) : raw (s ++ m) = raw (t ++ m) ↔ raw s = raw t := by
  unfold raw; rw [size_append, size_append]; exact raw_iff s t m m.size
theorem raw_one {s t : ByteArray} (hs : s.size = 1) (ht : t.size = 1) (h : raw s = raw t) : s = t := by
  unfold raw at h; rw [hs, ht] at h
  have h1 : (14695981039346656037 ^^^ (byteAt s 0).toUInt64) * 1099511628211 = (14695981039346656037 ^^^ (byteAt t 0).toUInt64) * (1099511628211 : UInt64) := h
  rw [UInt64.xor_comm _ (byteAt s 0).toUInt64, UInt64.xor_comm _ (byteAt t 0).toUInt64] at h1
  have h2 := step_inj h1
  have h3 : byteAt s 0 = byteAt t 0 := by
    apply UInt8.toNat_inj.1
    have := congrArg UInt64.toNat h2
    simpa using this
  apply ByteArray.ext
  have hs' : s.data.size = 1 := hs
  have ht' : t.data.size = 1 := ht
  apply Array.ext
  · rw [hs', ht']
  · intro i hi hj
    obtain rfl : i = 0 := by omega
    unfold byteAt at h3
    simpa [Array.getD, hs', ht'] using h3
theorem sum_of {s : ByteArray} (h : sumErr s = 0) : sum s = raw s ∧ s.size ≤ 40 := by
  unfold sumErr at h; split at h
  · cases h
  · exact ⟨if_neg (by assumption), by omega⟩
theorem suffix_law {s t m : ByteArray} (h1 : sumErr s = 0) (h2 : sumErr t = 0) (h3 : sumErr (s ++ m) = 0) (h4 : sumErr (t ++ m) = 0) :
    (sum s == sum t) = (sum (s ++ m) == sum (t ++ m)) ∧ (s.size = 1 → t.size = 1 → s ≠ t → sum s ≠ sum t) := by
  rw [(sum_of h1).1, (sum_of h2).1, (sum_of h3).1, (sum_of h4).1]
  refine ⟨?_, fun a b c d => c (raw_one a b d)⟩
  rw [Bool.eq_iff_iff, beq_iff_eq, beq_iff_eq, raw_append_iff]
theorem suffix_bool {s t m : ByteArray} (h1 : sumErr s = 0) (h2 : sumErr t = 0) (h3 : sumErr (s ++ m) = 0) (h4 : sumErr (t ++ m) = 0) :
    ((sum s == sum t) == (sum (s ++ m) == sum (t ++ m)) && ((s.size : Int) != 1 || (t.size : Int) != 1 || decide (s = t) || sum s != sum t)) = true := by
  obtain ⟨l1, l2⟩ := suffix_law h1 h2 h3 h4
  rw [l1]
  by_cases a : s.size = 1
  · by_cases b : t.size = 1
    · by_cases c : s = t
      · simp [c]
      · simp [l2 a b c, bne]
    · have e : ((t.size : Int) != 1) = true := by rw [bne_iff_ne]; omega
      rw [e]; simp
  · have e : ((s.size : Int) != 1) = true := by rw [bne_iff_ne]; omega
    rw [e]; simp
end Go.Sx.Hash

/- Elements by number; numbers compared. -/
namespace Go.Sx
theorem getd_at {α : Type} {L : List α} {i : Nat} (h : i < L.length) (d : α) : L[i] = L.getD i d := by rw [List.getD_eq_getElem?_getD, List.getElem?_eq_getElem h]; rfl
def cmpI (x y : Int) : Int := if x < y then -1 else if y < x then 1 else 0
theorem cmpI_neg {x y : Int} : cmpI x y < 0 ↔ x < y := by unfold cmpI; split; simp [*]; split <;> simp <;> omega
theorem cmpI_zero {x y : Int} : cmpI x y = 0 ↔ x = y := by unfold cmpI; split; simp; omega; split <;> simp <;> omega
theorem cmp_lt {x y : Int} (h : x < y) : -1 = cmpI x y := by unfold cmpI; rw [if_pos h]
theorem cmp_gt {x y : Int} (h1 : y ≤ x) (h : y < x) : 1 = cmpI x y := by unfold cmpI; rw [if_neg (by omega), if_pos h]
theorem cmp_eq {x y : Int} (h1 : y ≤ x) (h2 : x ≤ y) : 0 = cmpI x y := by unfold cmpI; rw [if_neg (by omega), if_neg (by omega)]
end Go.Sx

/- Sketches: what the walks ask. -/
namespace Go.Sx.Sk
def Vals (rows : List (List Int)) : Prop := ∀ l ∈ rows, l.length ≤ 64 ∧ ∀ n ∈ l, 0 ≤ n ∧ n ≤ 1099511627776
theorem Form.vals {s : DSketch} (h : Form s) : Vals s.counts := fun l hl => ⟨by have := h.len l hl; have := h.w2; omega, h.bd l hl⟩
theorem take_bd {l : List Int} (h : ∀ n ∈ l, 0 ≤ n ∧ n ≤ 1099511627776) (k : Nat) : 0 ≤ sum (l.take k) ∧ sum (l.take k) ≤ 1099511627776 * (k : Int) := by
  have h1 := sum_bd (l := l.take k) fun n hn => h n (List.mem_of_mem_take hn)
  have h2 : (l.take k).length ≤ k := by simp; omega
  omega
theorem el_bd {l : List Int} (h : ∀ n ∈ l, 0 ≤ n ∧ n ≤ 1099511627776) {k : Nat} (hk : k < l.length) : 0 ≤ l.getD k default ∧ l.getD k default ≤ 1099511627776 := h _ (getD_mem hk)
theorem row_mem {rows : List (List Int)} {k : Nat} (h : k < rows.length) : rows.getD k [] ∈ rows := getD_mem h
theorem Vals.row {rows : List (List Int)} (h : Vals rows) {k : Nat} (hk : k < rows.length) : (rows.getD k []).length ≤ 64 ∧ ∀ n ∈ rows.getD k [], 0 ≤ n ∧ n ≤ 1099511627776 := h _ (row_mem hk)
theorem take_all {l : List Int} {k : Nat} (h : l.length ≤ k) : sum (l.take k) = sum l := by rw [List.take_of_length_le h]
/-! ### row -/
theorem row1 {l : List Int} {w : Int} (h : (l.length : Int) ≠ w) : rowErr l w = 1 := if_pos h
theorem row2 {l : List Int} {w : Int} (h : (l.length : Int) = w) (h2 : l.any (fun n => !okN n) = true) : rowErr l w = 3 := by rw [rowErr, if_neg (by simpa using h), if_pos h2]
theorem row3 {l : List Int} {w : Int} (h : (l.length : Int) = w) (h2 : l.any (fun n => !okN n) = false) : rowErr l w = 0 := by rw [rowErr, if_neg (by simpa using h), if_neg (by simp [h2])]
/-! ### Check -/
theorem rows_at {rows : List (List Int)} {w : Int} : ∀ {k : Nat}, k < rows.length → (∀ i, i < k → rowErr (rows.getD i []) w = 0) → rowErr (rows.getD k []) w ≠ 0 → rowsErr rows w = rowErr (rows.getD k []) w := by
  induction rows with
  | nil => intro k h; exact absurd h (Nat.not_lt_zero _)
  | cons l r ih =>
    intro k h h1 h2
    cases k with
    | zero => simp only [List.getD_cons_zero] at h2 ⊢; unfold rowsErr; rw [if_pos h2]
    | succ k =>
      have h0 := h1 0 (by omega)
      simp only [List.getD_cons_zero] at h0
      unfold rowsErr
      rw [if_neg (by simpa using h0)]
      simp only [List.getD_cons_succ] at h2 ⊢
      exact ih (by simpa using h) (fun i hi => by simpa using h1 (i + 1) (by omega)) h2
theorem rows_done {rows : List (List Int)} {w : Int} {k : Nat} (h : rows.length ≤ k) (h1 : ∀ i, i < k → rowErr (rows.getD i []) w = 0) : rowsErr rows w = 0 :=
  rowsErr0.2 fun l hl => by
    obtain ⟨i, hi, rfl⟩ := List.getElem_of_mem hl
    have := h1 i (by omega)
    rwa [List.getD_eq_getElem?_getD, List.getElem?_eq_getElem hi] at this
theorem ck1 {s : DSketch} (h : (s.counts.length : Int) = 0) : check s = 1 := if_pos (by omega)
theorem ck2 {s : DSketch} (h : 6 < (s.counts.length : Int)) : check s = 2 := by rw [check, if_neg (by omega), if_pos (by omega)]
theorem ck3 {s : DSketch} (h : (s.counts.length : Int) ≠ 0) (h1 : (s.counts.length : Int) ≤ 6) (h2 : s.wide < 1 ∨ 64 < s.wide) : check s = 3 := by rw [check, if_neg (by omega), if_neg (by omega), if_pos h2]
theorem ck4 {s : DSketch} {k : Nat} (h : (s.counts.length : Int) ≠ 0) (h1 : (s.counts.length : Int) ≤ 6) (h2 : 1 ≤ s.wide ∧ s.wide ≤ 64) (hk : k < s.counts.length) (h3 : ∀ i, i < k → rowErr (s.counts.getD i []) s.wide = 0) (h4 : rowErr (s.counts.getD k []) s.wide ≠ 0) : check s = rowErr (s.counts.getD k []) s.wide := by
  have h5 := rows_at hk h3 h4
  rw [check, if_neg (by omega), if_neg (by omega), if_neg (by omega), if_pos (by rw [h5]; exact h4), h5]
theorem ck5 {s : DSketch} (h : (s.counts.length : Int) ≠ 0) (h1 : (s.counts.length : Int) ≤ 6) (h2 : 1 ≤ s.wide ∧ s.wide ≤ 64) {k : Nat} (hk : s.counts.length ≤ k) (h3 : ∀ i, i < k → rowErr (s.counts.getD i []) s.wide = 0) (h4 : even s.counts = false) : check s = 4 := by
  have h5 := rows_done hk h3
  rw [check, if_neg (by omega), if_neg (by omega), if_neg (by omega), if_neg (by simpa using h5), if_neg (by simp [h4])]
theorem ck6 {s : DSketch} (h : (s.counts.length : Int) ≠ 0) (h1 : (s.counts.length : Int) ≤ 6) (h2 : 1 ≤ s.wide ∧ s.wide ≤ 64) {k : Nat} (hk : s.counts.length ≤ k) (h3 : ∀ i, i < k → rowErr (s.counts.getD i []) s.wide = 0) (h4 : even s.counts = true) : check s = 0 := by
  have h5 := rows_done hk h3
  rw [check, if_neg (by omega), if_neg (by omega), if_neg (by omega), if_neg (by simpa using h5), if_pos h4]
theorem form_of {s : DSketch} (h : (s.counts.length : Int) ≠ 0) (h1 : (s.counts.length : Int) ≤ 6) (h2 : 1 ≤ s.wide ∧ s.wide ≤ 64) {k : Nat} (hk : s.counts.length ≤ k) (h3 : ∀ i, i < k → rowErr (s.counts.getD i []) s.wide = 0) : Form s := by
  have h6 := fun l hl => rowErr0.1 (rowsErr0.1 (rows_done hk h3) l hl)
  exact ⟨by omega, by omega, h2.1, h2.2, fun l hl => (h6 l hl).1, fun l hl => (h6 l hl).2⟩
/-! ### place -/
theorem place_bd (key : ByteArray) (row : Int) {wide : Int} (h : 1 ≤ wide ∧ wide ≤ 64) : 0 ≤ place key row wide ∧ place key row wide < wide := by
  obtain ⟨m, rfl⟩ : ∃ m : Nat, wide = m := ⟨wide.toNat, by omega⟩
  unfold place
  rw [Hash.rawFold_eq _ m (by omega)]
  have h1 := (Hash.salted key (toU row)).toNat_lt
  generalize (Hash.salted key (toU row)).toNat = z at *
  have h2 : z / 4294967296 < 4294967296 := by omega
  have h3 : z / 4294967296 * m / 4294967296 < m := by
    rw [Nat.div_lt_iff_lt_mul (by decide), Nat.mul_comm m]
    exact Nat.mul_lt_mul_of_pos_right h2 (by omega)
  omega
/-! ### mapped -/
theorem mapRow_len (f : Int → Int → Int → Int) (r : Nat) (l : List Int) : (mapRow f r l).length = l.length := by simp [mapRow]
theorem mapRows_len (f : Int → Int → Int → Int) (rows : List (List Int)) : (mapRows f rows).length = rows.length := by simp [mapRows]
theorem mapRows_get (f : Int → Int → Int → Int) {rows : List (List Int)} {k : Nat} (h : k < rows.length) : (mapRows f rows).getD k [] = mapRow f k (rows.getD k []) := by
  simp [mapRows, List.getD_eq_getElem?_getD, h]
theorem mapRow_get (f : Int → Int → Int → Int) {l : List Int} {r i : Nat} (h : i < l.length) : (mapRow f r l).getD i default = f r i (l.getD i default) := by
  simp [mapRow, List.getD_eq_getElem?_getD, h]
/-- inner loop: the first i numbers are done -/
def MI (f : Int → Int → Int → Int) (r : Nat) (l ls : List Int) (i : Nat) : Prop := i ≤ l.length ∧ ls.length = l.length ∧ (∀ j, j < i → ls.getD j default = f r j (l.getD j default)) ∧ ∀ j, i ≤ j → ls.getD j default = l.getD j default
theorem MI.start (f : Int → Int → Int → Int) (r : Nat) (l : List Int) : MI f r l l 0 := ⟨Nat.zero_le _, rfl, fun j h => absurd h (Nat.not_lt_zero j), fun _ _ => rfl⟩
theorem getD_set {l : List Int} {i j : Nat} {z : Int} (h : i < l.length) : (l.set i z).getD j default = if j = i then z else l.getD j default := by
  simp only [List.getD_eq_getElem?_getD, List.getElem?_set]
  by_cases e : i = j
  · subst e; simp [h]
  · rw [if_neg e, if_neg (Ne.symm e)]
theorem MI.next {f : Int → Int → Int → Int} {r : Nat} {l ls : List Int} {i : Nat} (hI : MI f r l ls i) (h : i < l.length) {z : Int} (hz : z = f r i (l.getD i default)) : MI f r l (ls.set i z) (i + 1) := by
  obtain ⟨h1, h2, h3, h4⟩ := hI
  refine ⟨h, by simpa using h2, fun j hj => ?_, fun j hj => ?_⟩
  · rw [getD_set (by omega)]
    by_cases e : j = i
    · subst e; simp [hz]
    · rw [if_neg e]; exact h3 j (by omega)
  · rw [getD_set (by omega), if_neg (by omega)]; exact h4 j (by omega)
theorem ext_getD {l m : List Int} (h : l.length = m.length) (h2 : ∀ j, j < l.length → l.getD j default = m.getD j default) : l = m :=
  List.ext_getElem h fun i h1 h3 => by
    have := h2 i h1
    rwa [List.getD_eq_getElem?_getD, List.getD_eq_getElem?_getD, List.getElem?_eq_getElem h1, List.getElem?_eq_getElem h3] at this
theorem MI.done {f : Int → Int → Int → Int} {r : Nat} {l ls : List Int} {i : Nat} (hI : MI f r l ls i) (h : l.length ≤ i) : ls = mapRow f r l := by
  obtain ⟨h1, h2, h3, h4⟩ := hI
  refine ext_getD (by rw [mapRow_len, h2]) fun j hj => ?_
  rw [h3 j (by omega), mapRow_get f (by omega)]
/-- outer loop -/
def MO (f : Int → Int → Int → Int) (s o : DSketch) (k : Nat) : Prop := k ≤ s.counts.length ∧ o = ⟨s.wide, (mapRows f s.counts).take k⟩ ∧ fits ((mapRows f s.counts).take k) = true
theorem MO.start (f : Int → Int → Int → Int) (s : DSketch) : MO f s ⟨s.wide, []⟩ 0 := ⟨Nat.zero_le _, by simp, rfl⟩
theorem MO.next {f : Int → Int → Int → Int} {s o : DSketch} {k : Nat} (hI : MO f s o k) (h : k < s.counts.length) {ls : List Int} (hl : ls = mapRow f k (s.counts.getD k [])) (hf : fitsRow ls = true) : MO f s ⟨o.wide, o.counts ++ [ls]⟩ (k + 1) := by
  obtain ⟨h1, rfl, h3⟩ := hI
  have e : (mapRows f s.counts).take (k + 1) = (mapRows f s.counts).take k ++ [ls] := by
    rw [List.take_succ_eq_append_getElem (by rw [mapRows_len]; exact h), hl, ← mapRows_get f h, List.getD_eq_getElem?_getD, List.getElem?_eq_getElem (by rw [mapRows_len]; exact h)]; rfl
  refine ⟨h, by rw [e], ?_⟩
  rw [e, fits, List.all_append]; rw [fits] at h3; simp [h3, hf]
theorem MO.done {f : Int → Int → Int → Int} {s o : DSketch} {k : Nat} (hI : MO f s o k) (h : s.counts.length ≤ k) : mapS f s = o ∧ mapOk f s = true := by
  obtain ⟨h1, rfl, h3⟩ := hI
  have e : (mapRows f s.counts).take k = mapRows f s.counts := List.take_of_length_le (by rw [mapRows_len]; exact h)
  rw [e] at h3 ⊢
  exact ⟨if_pos h3, h3⟩
theorem MO.bad {f : Int → Int → Int → Int} {s o : DSketch} {k : Nat} (hI : MO f s o k) (h : k < s.counts.length) {ls : List Int} (hl : ls = mapRow f k (s.counts.getD k [])) (hf : fitsRow ls = false) : mapS f s = zero ∧ mapOk f s = false := by
  have h1 : mapOk f s = false := by
    cases h2 : mapOk f s with
    | false => rfl
    | true =>
      have h3 := List.all_eq_true.1 h2 (mapRow f k (s.counts.getD k [])) (by rw [← mapRows_get f h]; exact row_mem (by rw [mapRows_len]; exact h))
      rw [← hl, hf] at h3; cases h3
  exact ⟨if_neg (by simp [h1]), h1⟩
/-- the greatest of a row -/
def maxTo (l : List Int) : Nat → Int
  | 0 => l.getD 0 default
  | k + 1 => max (maxTo l k) (l.getD k default)
theorem maxTo_iff {l : List Int} (h : 0 < l.length) : ∀ k, k ≤ l.length → 1 ≤ k → (maxTo l k ≤ 1099511627776 ↔ ∀ j, j < k → l.getD j default ≤ 1099511627776)
  | 0, _, h1 => by omega
  | 1, _, _ => by
    show max (l.getD 0 default) (l.getD 0 default) ≤ _ ↔ _
    refine ⟨fun h j hj => ?_, fun h => ?_⟩
    · have : j = 0 := by omega
      subst this; omega
    · have := h 0 (by omega); omega
  | k + 2, h2, _ => by
    have ih := maxTo_iff h (k + 1) (by omega) (by omega)
    show max (maxTo l (k + 1)) (l.getD (k + 1) default) ≤ _ ↔ _
    refine ⟨fun h j hj => ?_, fun h => ?_⟩
    · by_cases e : j = k + 1
      · subst e; omega
      · exact ih.1 (by omega) j (by omega)
    · have h3 := ih.2 fun j hj => h j (by omega)
      have h4 := h (k + 1) (by omega)
      omega
def maxL (l : List Int) : Int := maxTo l l.length
theorem fits_max {l : List Int} (h : 0 < l.length) : fitsRow l = decide (maxL l ≤ 1099511627776) := by
  rw [Bool.eq_iff_iff, decide_eq_true_eq, maxL, maxTo_iff h _ (Nat.le_refl _) h, fitsRow, List.all_eq_true]
  refine ⟨fun h j hj => by simpa using h _ (getD_mem hj), fun h n hn => ?_⟩
  obtain ⟨i, hi, rfl⟩ := List.getElem_of_mem hn
  have := h i hi
  rw [List.getD_eq_getElem?_getD, List.getElem?_eq_getElem hi] at this
  simpa using this
/-! ### steps of the walks -/
theorem getD_of {α : Type} {l : List α} {i : Nat} {d : α} (h : i < l.length) : l.getD i d = l[i] := by rw [List.getD_eq_getElem?_getD, List.getElem?_eq_getElem h]; rfl
theorem idx_found {f : List Int → Bool} {l : List (List Int)} {k : Nat} (h : k < l.length) (h1 : f (l.getD k []) = true) (h2 : ∀ j, j < k → f (l.getD j []) = false) : (k : Int) = idxF f l :=
  idxF_found h (by rwa [getD_of h] at h1) fun j hj h3 => by have := h2 j h3; rwa [getD_of hj] at this
theorem idx_none {f : List Int → Bool} {l : List (List Int)} {k : Nat} (h2 : ∀ j, j < k → f (l.getD j []) = false) (h : l.length ≤ k) : -1 = idxF f l :=
  idxF_none fun j hj => by have := h2 j (by omega); rwa [getD_of hj] at this
theorem idx_step {f : List Int → Bool} {l : List (List Int)} {k : Nat} (h2 : ∀ j, j < k → f (l.getD j []) = false) (h1 : f (l.getD k []) = false) : ∀ j, j < k + 1 → f (l.getD j []) = false := fun j hj => by
  by_cases e : j = k
  · subst e; exact h1
  · exact h2 j (by omega)
theorem all_step {rows : List (List Int)} {w : Int} {k : Nat} (h2 : ∀ j, j < k → rowErr (rows.getD j []) w = 0) (h1 : rowErr (rows.getD k []) w = 0) : ∀ j, j < k + 1 → rowErr (rows.getD j []) w = 0 := fun j hj => by
  by_cases e : j = k
  · subst e; exact h1
  · exact h2 j (by omega)
theorem Form.row_len {s : DSketch} (h : Form s) {k : Nat} (hk : k < s.counts.length) : ((s.counts.getD k []).length : Int) = s.wide := h.len _ (row_mem hk)
theorem MO.len {f : Int → Int → Int → Int} {s o : DSketch} {k : Nat} (hI : MO f s o k) : o.counts.length = k := by
  obtain ⟨h1, rfl, _⟩ := hI
  simp [mapRows_len, h1]
theorem sumErr_iff {key : ByteArray} : Hash.sumErr key = 0 ↔ key.size ≤ 40 := by unfold Hash.sumErr; split <;> simp <;> omega
theorem key_ok {s : DSketch} {key : ByteArray} (h : keyErr s key = 0) : Ok s ∧ key.size ≤ 40 := by
  unfold keyErr at h
  split at h
  · rename_i h1; exact absurd h h1
  · rename_i h1; exact ⟨check_ok.1 (by simpa using h1), sumErr_iff.1 h⟩
theorem ad1 {s : DSketch} {key : ByteArray} {many : Int} (h : keyErr s key ≠ 0) : add s key many = zero ∧ addErr s key many = keyErr s key := by
  have h1 : addErr s key many = keyErr s key := if_pos h
  exact ⟨if_neg (by rw [h1]; exact h), h1⟩
theorem ad2 {s : DSketch} {key : ByteArray} {many : Int} (h : keyErr s key = 0 ∧ (many < 1 ∨ 1099511627776 < many)) : add s key many = zero ∧ addErr s key many = 3 := by
  have h1 : addErr s key many = 3 := by rw [addErr, if_neg (by simpa using h.1), if_pos h.2]
  exact ⟨if_neg (by rw [h1]; decide), h1⟩
theorem ad3 {s : DSketch} {key : ByteArray} {many : Int} (h : keyErr s key = 0) (hm : 1 ≤ many ∧ many ≤ 1099511627776) (h2 : mapOk (addF key s.wide many) s = false) : add s key many = zero ∧ addErr s key many = 8 := by
  have h1 : addErr s key many = 8 := by rw [addErr, if_neg (by simpa using h), if_neg (by omega), if_neg (by simp [h2])]
  exact ⟨if_neg (by rw [h1]; decide), h1⟩
theorem ad4 {s : DSketch} {key : ByteArray} {many : Int} (h : keyErr s key = 0) (hm : 1 ≤ many ∧ many ≤ 1099511627776) (h2 : mapOk (addF key s.wide many) s = true) : add s key many = mapS (addF key s.wide many) s ∧ addErr s key many = 0 := by
  have h1 : addErr s key many = 0 := by rw [addErr, if_neg (by simpa using h), if_neg (by omega), if_pos h2]
  exact ⟨if_pos h1, h1⟩
theorem mg1 {a b : DSketch} (h : check a ≠ 0) : merge a b = zero ∧ mrgErr a b = check a := by
  have h1 : mrgErr a b = check a := if_pos h
  exact ⟨if_neg (by rw [h1]; exact h), h1⟩
theorem mg2 {a b : DSketch} (h : check a = 0) (h2 : check b ≠ 0) : merge a b = zero ∧ mrgErr a b = check b := by
  have h1 : mrgErr a b = check b := by rw [mrgErr, if_neg (by simpa using h), if_pos h2]
  exact ⟨if_neg (by rw [h1]; exact h2), h1⟩
theorem mg3 {a b : DSketch} (h : check a = 0) (h2 : check b = 0) (h3 : a.wide ≠ b.wide ∨ (a.counts.length : Int) ≠ b.counts.length) : merge a b = zero ∧ mrgErr a b = 7 := by
  have h1 : mrgErr a b = 7 := by rw [mrgErr, if_neg (by simpa using h), if_neg (by simpa using h2), if_pos (by omega)]
  exact ⟨if_neg (by rw [h1]; decide), h1⟩
theorem mg4 {a b : DSketch} (h : check a = 0) (h2 : check b = 0) (h3 : a.wide = b.wide ∧ (a.counts.length : Int) = b.counts.length) (h4 : mapOk (mrgF b.counts) a = false) : merge a b = zero ∧ mrgErr a b = 8 := by
  have h1 : mrgErr a b = 8 := by rw [mrgErr, if_neg (by simpa using h), if_neg (by simpa using h2), if_neg (by omega), if_neg (by simp [h4])]
  exact ⟨if_neg (by rw [h1]; decide), h1⟩
theorem mg5 {a b : DSketch} (h : check a = 0) (h2 : check b = 0) (h3 : a.wide = b.wide ∧ (a.counts.length : Int) = b.counts.length) (h4 : mapOk (mrgF b.counts) a = true) : merge a b = mapS (mrgF b.counts) a ∧ mrgErr a b = 0 := by
  have h1 : mrgErr a b = 0 := by rw [mrgErr, if_neg (by simpa using h), if_neg (by simpa using h2), if_neg (by omega), if_pos h4]
  exact ⟨if_pos h1, h1⟩
/-! ### Halve -/
theorem mem_rows {f : Int → Int → Int → Int} {rows : List (List Int)} {l : List Int} (h : l ∈ mapRows f rows) : ∃ r, r < rows.length ∧ l = mapRow f r (rows.getD r []) := by
  obtain ⟨r, hr, rfl⟩ := List.getElem_of_mem h
  have hr' : r < rows.length := by rwa [mapRows_len] at hr
  exact ⟨r, hr', by rw [← mapRows_get f hr', getD_of hr]⟩
theorem mem_row {f : Int → Int → Int → Int} {r : Nat} {l : List Int} {n : Int} (h : n ∈ mapRow f r l) : ∃ i, i < l.length ∧ n = f r i (l.getD i default) := by
  obtain ⟨i, hi, rfl⟩ := List.getElem_of_mem h
  have hi' : i < l.length := by rwa [mapRow_len] at hi
  exact ⟨i, hi', by rw [← mapRow_get f hi', getD_of hi]⟩
theorem half_fits {s : DSketch} (h : Form s) : mapOk halfF s = true := by
  refine List.all_eq_true.2 fun l hl => List.all_eq_true.2 fun n hn => ?_
  obtain ⟨r, hr, rfl⟩ := mem_rows hl
  obtain ⟨i, hi, rfl⟩ := mem_row hn
  have hb := el_bd (h.bd _ (row_mem hr)) hi
  have e : halfF r i ((s.counts.getD r []).getD i default) = (s.counts.getD r []).getD i default / 2 := Int.tdiv_eq_ediv_of_nonneg hb.1
  rw [e]
  exact decide_eq_true (by omega)
theorem half_map {s : DSketch} (h : Form s) : mapS halfF s = ⟨s.wide, mapRows halfF s.counts⟩ := if_pos (half_fits h)
theorem hv1 {s : DSketch} (h : check s ≠ 0) : halve s = zero ∧ halfErr s = check s := by
  have h1 : halfErr s = check s := if_pos h
  exact ⟨if_neg (by rw [h1]; exact h), h1⟩
theorem hv2 {s : DSketch} (h : check s = 0) (h2 : even (mapS halfF s).counts = false) : halve s = zero ∧ halfErr s = 4 := by
  rw [half_map (check_ok.1 h).toForm] at h2
  have h1 : halfErr s = 4 := by rw [halfErr, if_neg (by simpa using h), if_neg (by simp [h2])]
  exact ⟨if_neg (by rw [h1]; decide), h1⟩
theorem hv3 {s : DSketch} (h : check s = 0) (h2 : even (mapS halfF s).counts = true) : halve s = mapS halfF s ∧ halfErr s = 0 := by
  rw [half_map (check_ok.1 h).toForm] at h2
  have h1 : halfErr s = 0 := by rw [halfErr, if_neg (by simpa using h), if_pos h2]
  exact ⟨if_pos h1, h1⟩
theorem mapRows_bd {s : DSketch} (h : Form s) {f : Int → Int → Int → Int} (hf : ∀ r i n, 0 ≤ n ∧ n ≤ 1099511627776 → 0 ≤ f r i n) (hk : mapOk f s = true) : Form ⟨s.wide, mapRows f s.counts⟩ where
  pos := by simpa [mapRows_len] using h.pos
  few := by simpa [mapRows_len] using h.few
  w1 := h.w1
  w2 := h.w2
  len := fun l hl => by
    obtain ⟨r, hr, rfl⟩ := mem_rows hl
    rw [mapRow_len]; exact h.len _ (row_mem hr)
  bd := fun l hl n hn => by
    have h9 := List.all_eq_true.1 (List.all_eq_true.1 hk l hl) n hn
    refine ⟨?_, by simpa using h9⟩
    obtain ⟨r, hr, rfl⟩ := mem_rows hl
    obtain ⟨i, hi, rfl⟩ := mem_row hn
    exact hf _ _ _ (el_bd (h.bd _ (row_mem hr)) hi)
theorem half_form {s : DSketch} (h : Form s) : Form (mapS halfF s) := by
  rw [half_map h]
  exact mapRows_bd h (fun _ _ n hn => by rw [halfF, Int.tdiv_eq_ediv_of_nonneg hn.1]; omega) (half_fits h)
end Go.Sx.Sk

/- Sketches: the references. -/
namespace Go.Sx.Sk
def empty (rows wide : Int) : DSketch := ⟨wide, List.replicate rows.toNat (List.replicate wide.toNat 0)⟩
theorem rep_next {α : Type} (k : Nat) (x : α) : List.replicate (k + 1) x = List.replicate k x ++ [x] := List.replicate_succ'
/-! ### SketchEven -/
theorem ev_step {rows : List (List Int)} {i : Nat} (h0 : 1 ≤ i) (h : ∀ j, j < i → sum (rows.getD j []) = sum (rows.getD 0 [])) (h1 : sum (rows.getD i []) = sum (rows.getD ((i : Int) - 1).toNat [])) : ∀ j, j < i + 1 → sum (rows.getD j []) = sum (rows.getD 0 []) := fun j hj => by
  by_cases e : j = i
  · subst e; rw [h1]; exact h _ (by omega)
  · exact h j (by omega)
theorem ev_no {rows : List (List Int)} {i : Nat} (h0 : 1 ≤ i) (hi : i < rows.length) (h : ∀ j, j < i → sum (rows.getD j []) = sum (rows.getD 0 [])) (h1 : sum (rows.getD i []) ≠ sum (rows.getD ((i : Int) - 1).toNat [])) : even rows = false := by
  cases e : even rows with
  | false => rfl
  | true =>
    have h2 := even_iff.1 e
    rw [h2 _ (row_mem hi), h2 _ (row_mem (show ((i : Int) - 1).toNat < rows.length by omega))] at h1
    exact absurd rfl h1
theorem ev_yes {rows : List (List Int)} {i : Nat} (hi : rows.length ≤ i) (h : ∀ j, j < i → sum (rows.getD j []) = sum (rows.getD 0 [])) : even rows = true :=
  even_iff.2 fun l hl => by
    obtain ⟨j, hj, rfl⟩ := List.getElem_of_mem hl
    have := h j (by omega)
    rwa [getD_of hj] at this
/-! ### SketchCheck -/
theorem between_eq (n : Int) : Ref.between n 0 1099511627776 = okN n := rfl
theorem between_wide {n : Int} : Ref.between n 1 64 = true ↔ 1 ≤ n ∧ n ≤ 64 := by simp [Ref.between]
theorem rowE1 {l : List Int} {w : Int} (h : (l.length : Int) ≠ w) : rowErr l w = 1 := if_pos h
theorem rowE3 {l : List Int} {w : Int} {i : Nat} (h : (l.length : Int) = w) (hi : i < l.length) (h2 : okN (l.getD i default) = false) : rowErr l w = 3 :=
  row2 h (List.any_eq_true.2 ⟨_, getD_mem (d := default) hi, by rw [h2]; rfl⟩)
theorem rowE0 {l : List Int} {w : Int} {i : Nat} (h : (l.length : Int) = w) (hi : l.length ≤ i) (h2 : ∀ j, j < i → okN (l.getD j default) = true) : rowErr l w = 0 :=
  row3 h (List.any_eq_false.2 fun n hn => by
    obtain ⟨j, hj, rfl⟩ := List.getElem_of_mem hn
    have := h2 j (by omega)
    rw [getD_of hj] at this
    simp [this])
theorem ok_step {l : List Int} {i : Nat} {f : Int → Bool} (h : ∀ j, j < i → f (l.getD j default) = true) (h1 : f (l.getD i default) = true) : ∀ j, j < i + 1 → f (l.getD j default) = true := fun j hj => by
  by_cases e : j = i
  · subst e; exact h1
  · exact h j (by omega)
theorem se1 {s : DSketch} {key : ByteArray} (h : check s = 0 ∧ 40 < (key.size : Int)) : 2 = keyErr s key := by
  rw [keyErr, if_neg (by simpa using h.1), Hash.sumErr, if_pos (by omega)]
theorem se2 {s : DSketch} {key : ByteArray} (h : ¬ check s = 0 ∨ (key.size : Int) ≤ 40) : check s = keyErr s key := by
  unfold keyErr
  by_cases e : check s = 0
  · rw [if_neg (by simpa using e), e, Hash.sumErr, if_neg (by rcases h with h | h; exact absurd e h; omega)]
  · rw [if_pos e]
theorem place_eq {key : ByteArray} {row wide : Int} (h : key.size ≤ 40) : Hash.rawFold (Hash.mix (Hash.raw key ^^^ toU row)) wide = place key row wide := by
  rw [place, Hash.salted, if_pos (sumErr_iff.2 h), Hash.sum, if_neg (by omega)]
/-! ### SketchFits -/
def fitN (n : Int) : Bool := decide (n ≤ 1099511627776)
theorem fr_yes {l : List Int} {i : Nat} (hi : l.length ≤ i) (h2 : ∀ j, j < i → fitN (l.getD j default) = true) : fitsRow l = true :=
  List.all_eq_true.2 fun n hn => by
    obtain ⟨j, hj, rfl⟩ := List.getElem_of_mem hn
    have := h2 j (by omega)
    rwa [getD_of hj] at this
theorem fits_no {rows : List (List Int)} {r i : Nat} (hr : r < rows.length) (hi : i < (rows.getD r []).length) (h : 1099511627776 < (rows.getD r []).getD i default) : fits rows = false := by
  cases e : fits rows with
  | false => rfl
  | true =>
    have h2 := List.all_eq_true.1 (List.all_eq_true.1 e _ (row_mem hr)) _ (getD_mem (d := default) hi)
    have h3 : (rows.getD r []).getD i default ≤ 1099511627776 := of_decide_eq_true h2
    omega
theorem fits_yes {rows : List (List Int)} {r : Nat} (hr : rows.length ≤ r) (h : ∀ j, j < r → fitsRow (rows.getD j []) = true) : fits rows = true :=
  List.all_eq_true.2 fun l hl => by
    obtain ⟨j, hj, rfl⟩ := List.getElem_of_mem hl
    have := h j (by omega)
    rwa [getD_of hj] at this
theorem fits_step {rows : List (List Int)} {r : Nat} (h : ∀ j, j < r → fitsRow (rows.getD j []) = true) (h1 : fitsRow (rows.getD r []) = true) : ∀ j, j < r + 1 → fitsRow (rows.getD j []) = true := fun j hj => by
  by_cases e : j = r
  · subst e; exact h1
  · exact h j (by omega)
/-! ### SameSketch -/
theorem same_no0 {a b : DSketch} (h : a.wide ≠ b.wide ∨ (a.counts.length : Int) ≠ b.counts.length) : false = decide (a = b) := by
  symm; apply decide_eq_false; rintro rfl; rcases h with h | h <;> exact h rfl
theorem same_no1 {a b : DSketch} {r : Nat} (h : a.counts.getD r [] ≠ b.counts.getD r []) : false = decide (a = b) := by
  symm; apply decide_eq_false; rintro rfl; exact h rfl
theorem same_yes {a b : DSketch} {r : Nat} (h : a.wide = b.wide ∧ (a.counts.length : Int) = b.counts.length) (hr : a.counts.length ≤ r) (h1 : ∀ j, j < r → a.counts.getD j [] = b.counts.getD j []) : true = decide (a = b) := by
  symm; apply decide_eq_true
  obtain ⟨aw, ac⟩ := a
  obtain ⟨bw, bc⟩ := b
  simp only at *
  obtain ⟨h2, h3⟩ := h
  subst h2
  congr 1
  refine List.ext_getElem (by omega) fun i g1 g2 => ?_
  have := h1 i (by omega)
  rwa [getD_of g1, getD_of g2] at this
theorem same_step {a b : List (List Int)} {r : Nat} (h : ∀ j, j < r → a.getD j [] = b.getD j []) (h1 : a.getD r [] = b.getD r []) : ∀ j, j < r + 1 → a.getD j [] = b.getD j [] := fun j hj => by
  by_cases e : j = r
  · subst e; exact h1
  · exact h j (by omega)
/-! ### SketchCopy -/
theorem take_next {rows : List (List Int)} {r : Nat} (h : r < rows.length) : rows.take (r + 1) = rows.take r ++ [rows.getD r []] := by
  rw [List.take_succ_eq_append_getElem h, getD_of h]
theorem copy_done {s : DSketch} {r : Nat} (h : s.counts.length ≤ r) : (⟨s.wide, s.counts.take r⟩ : DSketch) = s := by rw [List.take_of_length_le h]
/-! ### the law's own loops: rows changed in place -/
structure PR (f : Int → Int → Int → Int) (rows LL : List (List Int)) (r k : Nat) : Prop where
  len : LL.length = rows.length
  rlen : ∀ q, (LL.getD q []).length = (rows.getD q []).length
  val : ∀ q i, (LL.getD q []).getD i default = if i < (rows.getD q []).length ∧ (q < r ∨ q = r ∧ i < k) then f q i ((rows.getD q []).getD i default) else (rows.getD q []).getD i default
theorem PR.start (f : Int → Int → Int → Int) (rows : List (List Int)) : PR f rows rows 0 0 := ⟨rfl, fun _ => rfl, fun q i => by rw [if_neg (by omega)]⟩
theorem rset_len {LL : List (List Int)} {r i q : Nat} {z : Int} : ((LL.set r ((LL.getD r []).set i z)).getD q []).length = (LL.getD q []).length := (Shape.set (LL := LL) (k := r) (i := i) (z := z)).2 q
theorem rset_get {LL : List (List Int)} {r i q j : Nat} {z : Int} (hr : r < LL.length) (hi : i < (LL.getD r []).length) : ((LL.set r ((LL.getD r []).set i z)).getD q []).getD j default = if q = r ∧ j = i then z else (LL.getD q []).getD j default := by
  by_cases e : q = r
  · subst e
    rw [getD_set_self hr, getD_set hi]
    by_cases e2 : j = i <;> simp [e2]
  · rw [getD_set_ne e, if_neg (fun h => e h.1)]
theorem PR.next {f : Int → Int → Int → Int} {rows LL : List (List Int)} {r k : Nat} (h : PR f rows LL r k) (hr : r < rows.length) (hk : k < (rows.getD r []).length) {z : Int} (hz : z = f r k ((LL.getD r []).getD k default)) : PR f rows (LL.set r ((LL.getD r []).set k z)) r (k + 1) := by
  have hk' : k < (LL.getD r []).length := by rw [h.rlen]; exact hk
  have hr' : r < LL.length := by rw [h.len]; exact hr
  refine ⟨by simp [h.len], fun q => by rw [rset_len]; exact h.rlen q, fun q i => ?_⟩
  rw [rset_get hr' hk', h.val]
  by_cases e : q = r ∧ i = k
  · obtain ⟨rfl, rfl⟩ := e
    have h0 := h.val q i
    rw [if_neg (by omega)] at h0
    rw [if_pos ⟨rfl, rfl⟩, if_pos ⟨hk, .inr ⟨rfl, by omega⟩⟩, hz, h0]
  · rw [if_neg e]
    by_cases c : i < (rows.getD q []).length ∧ (q < r ∨ q = r ∧ i < k)
    · rw [if_pos c, if_pos ⟨c.1, by omega⟩]
    · rw [if_neg c, if_neg (by omega)]
theorem PR.row {f : Int → Int → Int → Int} {rows LL : List (List Int)} {r k : Nat} (h : PR f rows LL r k) (hk : (rows.getD r []).length ≤ k) : PR f rows LL (r + 1) 0 := by
  refine ⟨h.len, h.rlen, fun q i => ?_⟩
  rw [h.val]
  by_cases e : q = r
  · subst e
    by_cases c : i < (rows.getD q []).length
    · rw [if_pos ⟨c, .inr ⟨rfl, by omega⟩⟩, if_pos ⟨c, by omega⟩]
    · rw [if_neg (fun h => c h.1), if_neg (fun h => c h.1)]
  · by_cases c : i < (rows.getD q []).length ∧ q < r
    · rw [if_pos ⟨c.1, .inl c.2⟩, if_pos ⟨c.1, .inl (by omega)⟩]
    · rw [if_neg (by omega), if_neg (by omega)]
theorem PR.done {f : Int → Int → Int → Int} {rows LL : List (List Int)} {r : Nat} (h : PR f rows LL r 0) (hr : rows.length ≤ r) : LL = mapRows f rows := by
  refine List.ext_getElem (by rw [h.len, mapRows_len]) fun q g1 g2 => ?_
  have hq : q < rows.length := by rw [← h.len]; exact g1
  rw [← getD_of (d := []) g1, ← getD_of (d := []) g2, mapRows_get f hq]
  refine ext_getD (by rw [h.rlen, mapRow_len]) fun i hi => ?_
  rw [h.rlen] at hi
  rw [h.val, if_pos ⟨hi, .inl (by omega)⟩, mapRow_get f hi]
/-- a function that changes one number of each row -/
theorem PR.one {f : Int → Int → Int → Int} {rows LL : List (List Int)} {r p : Nat} (h : PR f rows LL r 0) (hr : r < rows.length) (hp : p < (rows.getD r []).length) {z : Int} (hz : z = f r p ((LL.getD r []).getD p default)) (hf : ∀ i n, i ≠ p → f r (i : Nat) n = n) : PR f rows (LL.set r ((LL.getD r []).set p z)) (r + 1) 0 := by
  have hp' : p < (LL.getD r []).length := by rw [h.rlen]; exact hp
  have hr' : r < LL.length := by rw [h.len]; exact hr
  refine ⟨by simp [h.len], fun q => by rw [rset_len]; exact h.rlen q, fun q i => ?_⟩
  rw [rset_get hr' hp', h.val]
  by_cases e : q = r ∧ i = p
  · obtain ⟨rfl, rfl⟩ := e
    have h0 := h.val q i
    rw [if_neg (by omega)] at h0
    rw [if_pos ⟨rfl, rfl⟩, if_pos ⟨hp, .inl (by omega)⟩, hz, h0]
  · rw [if_neg e]
    by_cases c : i < (rows.getD q []).length ∧ q < r
    · rw [if_pos ⟨c.1, .inl c.2⟩, if_pos ⟨c.1, .inl (by omega)⟩]
    · rw [if_neg (by omega)]
      by_cases c2 : i < (rows.getD q []).length ∧ (q < r + 1 ∨ q = r + 1 ∧ i < 0)
      · rw [if_pos c2]
        have hq : q = r := by omega
        subst hq
        exact (hf i _ (fun h => e ⟨rfl, h⟩)).symm
      · rw [if_neg c2]
end Go.Sx.Sk

/- Sketches: the laws. -/
namespace Go.Sx.Sk
def vl (rows : List (List Int)) (r i : Nat) : Int := (rows.getD r []).getD i default
theorem rows_ext {A B : List (List Int)} (h : A.length = B.length) (h1 : ∀ r, r < A.length → (A.getD r []).length = (B.getD r []).length) (h2 : ∀ r i, r < A.length → i < (A.getD r []).length → vl A r i = vl B r i) : A = B :=
  List.ext_getElem h fun r g1 g2 => by
    rw [← getD_of (d := []) g1, ← getD_of (d := []) g2]
    exact ext_getD (h1 r g1) fun i hi => h2 r i g1 hi
theorem vl_map {f : Int → Int → Int → Int} {rows : List (List Int)} {r i : Nat} (hr : r < rows.length) (hi : i < (rows.getD r []).length) : vl (mapRows f rows) r i = f r i (vl rows r i) := by
  unfold vl; rw [mapRows_get f hr, mapRow_get f hi]
theorem mlen (f : Int → Int → Int → Int) {rows : List (List Int)} {r : Nat} (hr : r < rows.length) : ((mapRows f rows).getD r []).length = (rows.getD r []).length := by rw [mapRows_get f hr, mapRow_len]
theorem Form.vl {s : DSketch} (h : Form s) {r i : Nat} (hr : r < s.counts.length) (hi : i < (s.counts.getD r []).length) : 0 ≤ vl s.counts r i ∧ vl s.counts r i ≤ 1099511627776 := el_bd (h.bd _ (row_mem hr)) hi
theorem mapOk_iff {f : Int → Int → Int → Int} {s : DSketch} : mapOk f s = true ↔ ∀ r i, r < s.counts.length → i < (s.counts.getD r []).length → f r i (Sk.vl s.counts r i) ≤ 1099511627776 := by
  constructor
  · intro h r i hr hi
    have h1 := List.all_eq_true.1 (List.all_eq_true.1 h ((mapRows f s.counts).getD r []) (row_mem (by rw [mapRows_len]; exact hr))) (Sk.vl (mapRows f s.counts) r i) (getD_mem (by rw [mlen f hr]; exact hi))
    rw [vl_map hr hi] at h1
    exact of_decide_eq_true h1
  · intro h
    refine List.all_eq_true.2 fun l hl => List.all_eq_true.2 fun n hn => ?_
    obtain ⟨r, hr, rfl⟩ := mem_rows hl
    obtain ⟨i, hi, rfl⟩ := mem_row hn
    exact decide_eq_true (h r i hr hi)
theorem wrap_in {z : Int} (h : 0 ≤ z) (h2 : z ≤ 4398046511104) : IntKind.i64.wrap z = z := wrap_i64 (by omega)
/-! ### sums of rows that are changed -/
theorem sum_set {l : List Int} {i : Nat} {z : Int} (h : i < l.length) : sum (l.set i z) = sum l + (z - l.getD i default) := by
  unfold sum
  induction l generalizing i with
  | nil => exact absurd h (Nat.not_lt_zero _)
  | cons x l ih =>
    cases i with
    | zero => simp; omega
    | succ i =>
      have := ih (i := i) (by simpa using h)
      simp only [List.set_cons_succ, List.sum_cons, List.getD_cons_succ, this]
      omega
theorem sum_add {l m : List Int} (h : l.length = m.length) {k : List Int} (hk : k.length = l.length) (h2 : ∀ i, i < l.length → k.getD i default = l.getD i default + m.getD i default) : sum k = sum l + sum m := by
  unfold sum
  induction l generalizing m k with
  | nil =>
    have h3 : m = [] := List.length_eq_zero_iff.1 h.symm
    have h4 : k = [] := List.length_eq_zero_iff.1 hk
    subst h3; subst h4; simp
  | cons x l ih =>
    match m, k, h, hk with
    | y :: m, z :: k, h, hk =>
      have h0 := h2 0 (by simp)
      simp only [List.getD_cons_zero] at h0
      have := ih (m := m) (k := k) (by simpa using h) (by simpa using hk) fun i hi => by simpa using h2 (i + 1) (by simpa using hi)
      simp only [List.sum_cons, this, h0]
      omega
/-! ### adding -/
structure AddOk (s : DSketch) (key : ByteArray) (many : Int) : Prop where
  ok : Ok s
  ks : key.size ≤ 40
  m1 : 1 ≤ many
  m2 : many ≤ 1099511627776
  fit : mapOk (addF key s.wide many) s = true
theorem addErr_iff {s : DSketch} {key : ByteArray} {many : Int} : addErr s key many = 0 ↔ AddOk s key many := by
  constructor
  · intro h
    unfold addErr at h
    split at h
    · rename_i h1; exact absurd h h1
    · rename_i h1
      have hk := key_ok (s := s) (key := key) (by simpa using h1)
      split at h
      · cases h
      · split at h
        · rename_i h3; exact ⟨hk.1, hk.2, by omega, by omega, h3⟩
        · cases h
  · intro h
    have h1 : keyErr s key = 0 := by rw [keyErr, if_neg (by simpa using check_ok.2 h.ok)]; exact sumErr_iff.2 h.ks
    have := h.m1; have := h.m2
    rw [addErr, if_neg (by simpa using h1), if_neg (by omega), if_pos h.fit]
theorem AddOk.keyErr {s : DSketch} {key : ByteArray} {many : Int} (h : AddOk s key many) : Sk.keyErr s key = 0 := by rw [Sk.keyErr, if_neg (by simpa using check_ok.2 h.ok)]; exact sumErr_iff.2 h.ks
theorem AddOk.val {s : DSketch} {key : ByteArray} {many : Int} (h : AddOk s key many) : add s key many = ⟨s.wide, mapRows (addF key s.wide many) s.counts⟩ := by
  rw [add, if_pos (addErr_iff.2 h), mapS, if_pos h.fit]
theorem AddOk.pl {s : DSketch} {key : ByteArray} {many : Int} (h : AddOk s key many) {r : Nat} (hr : r < s.counts.length) : 0 ≤ place key r s.wide ∧ (place key r s.wide).toNat < (s.counts.getD r []).length := by
  have h1 := place_bd key r (wide := s.wide) ⟨h.ok.w1, h.ok.w2⟩
  have h2 := h.ok.row_len hr
  omega
theorem addF_val {key : ByteArray} {w many : Int} {r i : Nat} {n : Int} (hn : 0 ≤ n ∧ n ≤ 1099511627776) (hm : 0 ≤ many ∧ many ≤ 2199023255552) : addF key w many r i n = if (i : Int) = place key r w then n + many else n := by
  unfold addF; split
  · exact wrap_in (by omega) (by omega)
  · rfl
theorem AddOk.vl {s : DSketch} {key : ByteArray} {many : Int} (h : AddOk s key many) {r i : Nat} (hr : r < s.counts.length) (hi : i < (s.counts.getD r []).length) : Sk.vl (add s key many).counts r i = if (i : Int) = place key r s.wide then Sk.vl s.counts r i + many else Sk.vl s.counts r i := by
  have := h.m1; have := h.m2
  rw [h.val]
  simp only
  rw [vl_map hr hi, addF_val (h.ok.vl hr hi) (by omega)]
theorem addRow_sum {s : DSketch} {key : ByteArray} {many : Int} (h : AddOk s key many) {r : Nat} (hr : r < s.counts.length) : sum ((add s key many).counts.getD r []) = sum (s.counts.getD r []) + many := by
  obtain ⟨p1, p2⟩ := h.pl hr
  have hl : ((add s key many).counts.getD r []).length = (s.counts.getD r []).length := by rw [h.val]; exact mlen _ hr
  have e : (add s key many).counts.getD r [] = (s.counts.getD r []).set (place key r s.wide).toNat ((s.counts.getD r []).getD (place key r s.wide).toNat default + many) := by
    refine ext_getD (by rw [hl, List.length_set]) fun i hi => ?_
    rw [hl] at hi
    have := h.vl hr hi
    unfold Sk.vl at this
    rw [this, getD_set p2]
    by_cases e : (i : Int) = place key r s.wide
    · rw [if_pos e, if_pos (by omega)]
      have e2 : i = (place key r s.wide).toNat := by omega
      rw [← e2]
    · rw [if_neg e, if_neg (by omega)]
  rw [e, sum_set p2]
  omega
theorem AddOk.form {s : DSketch} {key : ByteArray} {many : Int} (h : AddOk s key many) : Form (add s key many) := by
  rw [h.val]
  have := h.m1; have := h.m2
  refine mapRows_bd h.ok.toForm (fun r i n hn => ?_) h.fit
  unfold addF; split
  · rw [wrap_in (by omega) (by omega)]; omega
  · exact hn.1
theorem AddOk.len {s : DSketch} {key : ByteArray} {many : Int} (h : AddOk s key many) : (add s key many).counts.length = s.counts.length := by rw [h.val]; exact mapRows_len _ _
theorem AddOk.wide {s : DSketch} {key : ByteArray} {many : Int} (h : AddOk s key many) : (add s key many).wide = s.wide := by rw [h.val]
theorem AddOk.rlen {s : DSketch} {key : ByteArray} {many : Int} (h : AddOk s key many) {r : Nat} (hr : r < s.counts.length) : ((add s key many).counts.getD r []).length = (s.counts.getD r []).length := by rw [h.val]; exact mlen _ hr
theorem Ok.sum_at {s : DSketch} (h : Ok s) {r : Nat} (hr : r < s.counts.length) : sum (s.counts.getD r []) = sum (s.counts.getD 0 []) := h.same _ (row_mem hr)
theorem AddOk.after {s : DSketch} {key : ByteArray} {many : Int} (h : AddOk s key many) : Ok (add s key many) :=
  ⟨h.form, fun l hl => by
    obtain ⟨r, hr, rfl⟩ := List.getElem_of_mem hl
    have hr' : r < s.counts.length := by rw [← h.len]; exact hr
    have hp := h.ok.pos
    rw [← getD_of (d := []) hr, addRow_sum h hr', addRow_sum h (show 0 < s.counts.length by omega), h.ok.sum_at hr']⟩
theorem AddOk.total {s : DSketch} {key : ByteArray} {many : Int} (h : AddOk s key many) : Sk.total (add s key many) = Sk.total s + many := by
  have hp := h.ok.pos
  rw [Sk.total, if_pos (check_ok.2 h.after), Sk.total, if_pos (check_ok.2 h.ok), addRow_sum h (by omega)]
theorem add_bad {s : DSketch} {key : ByteArray} {many : Int} (h : addErr s key many ≠ 0) : add s key many = zero := if_neg h
/-! ### SketchAdds -/
theorem adds_law {s : DSketch} {key : ByteArray} {a b : Int} (h : addErr s key a = 0) (h2 : addErr (add s key a) key b = 0) :
    (1099511627776 < a + b ∧ addErr s key (a + b) = 3) ∨ (a + b ≤ 1099511627776 ∧ addErr s key (a + b) = 0 ∧ add s key (a + b) = add (add s key a) key b ∧ check s = 0 ∧ check (add (add s key a) key b) = 0 ∧ total (add (add s key a) key b) = total s + a + b) := by
  have h1 := addErr_iff.1 h
  have h3 := addErr_iff.1 h2
  have m1 := h1.m1; have m2 := h1.m2; have m3 := h3.m1; have m4 := h3.m2
  rcases Int.lt_or_le 1099511627776 (a + b) with c | c
  · exact .inl ⟨c, by rw [addErr, if_neg (by simpa using h1.keyErr), if_pos (by omega)]⟩
  · have hv : ∀ r i, r < s.counts.length → i < (s.counts.getD r []).length → Sk.vl (add (add s key a) key b).counts r i = addF key s.wide (a + b) r i (Sk.vl s.counts r i) := fun r i hr hi => by
      rw [h3.vl (by rw [h1.len]; exact hr) (by rw [h1.rlen hr]; exact hi), h1.vl hr hi, h1.wide, addF_val (h1.ok.vl hr hi) (by omega)]
      split <;> omega
    have hfit : mapOk (addF key s.wide (a + b)) s = true := mapOk_iff.2 fun r i hr hi => by
      rw [← hv r i hr hi]
      have hr1 : r < (add s key a).counts.length := by rw [h1.len]; exact hr
      have hr2 : r < (add (add s key a) key b).counts.length := by rw [h3.len]; exact hr1
      exact (h3.form.vl hr2 (by rw [h3.rlen hr1, h1.rlen hr]; exact hi)).2
    have hA : AddOk s key (a + b) := ⟨h1.ok, h1.ks, by omega, c, hfit⟩
    refine .inr ⟨c, addErr_iff.2 hA, ?_, check_ok.2 h1.ok, check_ok.2 h3.after, ?_⟩
    · have e1 : (add s key (a + b)).wide = (add (add s key a) key b).wide := by rw [hA.wide, h3.wide, h1.wide]
      have e2 : (add s key (a + b)).counts = (add (add s key a) key b).counts := by
        refine rows_ext (by rw [hA.len, h3.len, h1.len]) (fun r hr => ?_) fun r i hr hi => ?_
        · rw [hA.len] at hr
          rw [hA.rlen hr, h3.rlen (by rw [h1.len]; exact hr), h1.rlen hr]
        · rw [hA.len] at hr
          rw [hA.rlen hr] at hi
          rw [hv r i hr hi, hA.vl hr hi, addF_val (h1.ok.vl hr hi) (by omega)]
      revert e1 e2
      generalize add s key (a + b) = p
      generalize add (add s key a) key b = q
      intro e1 e2
      cases p; cases q; simp only at e1 e2; subst e1; subst e2; rfl
    · rw [h3.total, h1.total]
/-! ### SketchMerge -/
structure MrgOk (a b : DSketch) : Prop where
  oa : Ok a
  ob : Ok b
  w : a.wide = b.wide
  l : a.counts.length = b.counts.length
  fit : mapOk (mrgF b.counts) a = true
theorem mrgErr_iff {a b : DSketch} : mrgErr a b = 0 ↔ MrgOk a b := by
  constructor
  · intro h
    unfold mrgErr at h
    split at h
    · rename_i h1; exact absurd h h1
    · rename_i h1
      split at h
      · rename_i h2; exact absurd h h2
      · rename_i h2
        split at h
        · cases h
        · split at h
          · rename_i h3 h4; exact ⟨check_ok.1 (by simpa using h1), check_ok.1 (by simpa using h2), by omega, by omega, h4⟩
          · cases h
  · intro h
    have := h.w; have := h.l
    rw [mrgErr, if_neg (by simpa using check_ok.2 h.oa), if_neg (by simpa using check_ok.2 h.ob), if_neg (by omega), if_pos h.fit]
theorem mrg_bad {a b : DSketch} (h : mrgErr a b ≠ 0) : merge a b = zero := if_neg h
theorem MrgOk.val {a b : DSketch} (h : MrgOk a b) : merge a b = ⟨a.wide, mapRows (mrgF b.counts) a.counts⟩ := by
  rw [merge, if_pos (mrgErr_iff.2 h), mapS, if_pos h.fit]
theorem mrgF_val {b : List (List Int)} {r i : Nat} {n : Int} (h : 0 ≤ n + vl b r i) (h2 : n + vl b r i ≤ 4398046511104) : mrgF b r i n = n + vl b r i := by
  unfold mrgF
  rw [Int.toNat_natCast, Int.toNat_natCast]
  exact wrap_in h h2
theorem same_rl {a b : DSketch} (ha : Ok a) (hb : Ok b) (hw : a.wide = b.wide) (hl : a.counts.length = b.counts.length) {r : Nat} (hr : r < a.counts.length) : (a.counts.getD r []).length = (b.counts.getD r []).length := by
  have h1 := ha.row_len hr
  have h2 := hb.row_len (show r < b.counts.length by omega)
  omega
theorem MrgOk.vl {a b : DSketch} (h : MrgOk a b) {r i : Nat} (hr : r < a.counts.length) (hi : i < (a.counts.getD r []).length) : Sk.vl (merge a b).counts r i = Sk.vl a.counts r i + Sk.vl b.counts r i := by
  have h1 := h.oa.vl hr hi
  have h2 := h.ob.vl (show r < b.counts.length by have := h.l; omega) (by rw [← same_rl h.oa h.ob h.w h.l hr]; exact hi)
  rw [h.val]
  simp only
  rw [vl_map hr hi, mrgF_val (by omega) (by omega)]
theorem MrgOk.len {a b : DSketch} (h : MrgOk a b) : (merge a b).counts.length = a.counts.length := by rw [h.val]; exact mapRows_len _ _
theorem MrgOk.wide {a b : DSketch} (h : MrgOk a b) : (merge a b).wide = a.wide := by rw [h.val]
theorem MrgOk.rlen {a b : DSketch} (h : MrgOk a b) {r : Nat} (hr : r < a.counts.length) : ((merge a b).counts.getD r []).length = (a.counts.getD r []).length := by rw [h.val]; exact mlen _ hr
theorem sk_ext {p q : DSketch} (h : p.wide = q.wide) (h2 : p.counts = q.counts) : p = q := by cases p; cases q; simp only at h h2; subst h; subst h2; rfl
theorem MrgOk.symm {a b : DSketch} (h : MrgOk a b) : MrgOk b a := by
  refine ⟨h.ob, h.oa, h.w.symm, h.l.symm, mapOk_iff.2 fun r i hr hi => ?_⟩
  have hr' : r < a.counts.length := by rw [h.l]; exact hr
  have hi' : i < (a.counts.getD r []).length := by rw [same_rl h.oa h.ob h.w h.l hr']; exact hi
  have h1 := h.oa.vl hr' hi'
  have h2 := h.ob.vl hr hi
  have h3 := mapOk_iff.1 h.fit r i hr' hi'
  rw [mrgF_val (by omega) (by omega)] at h3
  rw [mrgF_val (by omega) (by omega)]
  omega
theorem MrgOk.comm {a b : DSketch} (h : MrgOk a b) : merge a b = merge b a := by
  have h' := h.symm
  refine sk_ext (by rw [h.wide, h'.wide, h.w]) (rows_ext (by rw [h.len, h'.len, h.l]) (fun r hr => ?_) fun r i hr hi => ?_)
  · rw [h.len] at hr
    rw [h.rlen hr, h'.rlen (by rw [← h.l]; exact hr), same_rl h.oa h.ob h.w h.l hr]
  · rw [h.len] at hr
    rw [h.rlen hr] at hi
    rw [h.vl hr hi, h'.vl (by rw [← h.l]; exact hr) (by rw [← same_rl h.oa h.ob h.w h.l hr]; exact hi), Int.add_comm]
theorem MrgOk.form {a b : DSketch} (h : MrgOk a b) : Form (merge a b) where
  pos := by rw [h.len]; exact h.oa.pos
  few := by rw [h.len]; exact h.oa.few
  w1 := by rw [h.wide]; exact h.oa.w1
  w2 := by rw [h.wide]; exact h.oa.w2
  len := fun l hl => by
    obtain ⟨r, hr, rfl⟩ := List.getElem_of_mem hl
    have hr' : r < a.counts.length := by rw [← h.len]; exact hr
    rw [← getD_of (d := []) hr, h.rlen hr', h.wide]; exact h.oa.row_len hr'
  bd := fun l hl n hn => by
    obtain ⟨r, hr, rfl⟩ := List.getElem_of_mem hl
    have hr' : r < a.counts.length := by rw [← h.len]; exact hr
    rw [← getD_of (d := []) hr] at hn
    obtain ⟨i, hi, rfl⟩ := List.getElem_of_mem hn
    have hi' : i < (a.counts.getD r []).length := by rw [← h.rlen hr']; exact hi
    rw [← getD_of (d := default) hi]
    have e := h.vl hr' hi'
    have h1 := h.oa.vl hr' hi'
    have h2 := h.ob.vl (show r < b.counts.length by have := h.l; omega) (by rw [← same_rl h.oa h.ob h.w h.l hr']; exact hi')
    have h3 := mapOk_iff.1 h.fit r i hr' hi'
    rw [mrgF_val (by omega) (by omega)] at h3
    unfold Sk.vl at e h1 h2 h3
    rw [e]
    omega
/-- a sketch to which something is added, and the sum -/
theorem merge_law {a b : DSketch} {key : ByteArray} {many : Int} (h : mrgErr a b = 0) (h2 : addErr (merge a b) key many = 0) :
    addErr a key many = 0 ∧ mrgErr (add a key many) b = 0 ∧ merge (add a key many) b = add (merge a b) key many ∧ keyErr a key = 0 ∧ keyErr (merge a b) key = 0 ∧ est a key ≤ est (merge a b) key := by
  have hm := mrgErr_iff.1 h
  have hA := addErr_iff.1 h2
  have m1 := hA.m1; have m2 := hA.m2
  have hvb : ∀ r i, r < a.counts.length → i < (a.counts.getD r []).length → 0 ≤ Sk.vl b.counts r i ∧ Sk.vl b.counts r i ≤ 1099511627776 := fun r i hr hi =>
    hm.ob.vl (show r < b.counts.length by have := hm.l; omega) (by rw [← same_rl hm.oa hm.ob hm.w hm.l hr]; exact hi)
  have hy : ∀ r i, r < a.counts.length → i < (a.counts.getD r []).length → Sk.vl (add (merge a b) key many).counts r i = (if (i : Int) = place key r a.wide then Sk.vl a.counts r i + many else Sk.vl a.counts r i) + Sk.vl b.counts r i := fun r i hr hi => by
    rw [hA.vl (by rw [hm.len]; exact hr) (by rw [hm.rlen hr]; exact hi), hm.vl hr hi, hm.wide]
    split <;> omega
  have hyb : ∀ r i, r < a.counts.length → i < (a.counts.getD r []).length → Sk.vl (add (merge a b) key many).counts r i ≤ 1099511627776 := fun r i hr hi =>
    (hA.form.vl (by rw [hA.len, hm.len]; exact hr) (by rw [hA.rlen (by rw [hm.len]; exact hr), hm.rlen hr]; exact hi)).2
  have hAa : AddOk a key many := ⟨hm.oa, hA.ks, m1, m2, mapOk_iff.2 fun r i hr hi => by
    rw [addF_val (hm.oa.vl hr hi) (by omega)]
    have e1 := hy r i hr hi
    have e2 := hyb r i hr hi
    have e3 := hvb r i hr hi
    omega⟩
  have hM : MrgOk (add a key many) b := ⟨hAa.after, hm.ob, by rw [hAa.wide]; exact hm.w, by rw [hAa.len]; exact hm.l, mapOk_iff.2 fun r i hr hi => by
    rw [hAa.len] at hr
    rw [hAa.rlen hr] at hi
    have e1 := hy r i hr hi
    have e2 := hyb r i hr hi
    have e3 := hvb r i hr hi
    have e4 := hAa.vl hr hi
    have e5 := hm.oa.vl hr hi
    have e6 : 0 ≤ Sk.vl (add a key many).counts r i + Sk.vl b.counts r i ∧ Sk.vl (add a key many).counts r i + Sk.vl b.counts r i ≤ 1099511627776 := by
      rw [e4]
      constructor
      · split <;> omega
      · rw [← e1]; exact e2
    rw [mrgF_val e6.1 (by omega)]
    exact e6.2⟩
  refine ⟨addErr_iff.2 hAa, mrgErr_iff.2 hM, ?_, hAa.keyErr, hA.keyErr, ?_⟩
  · refine sk_ext (by rw [hM.wide, hAa.wide, hA.wide, hm.wide]) (rows_ext (by rw [hM.len, hAa.len, hA.len, hm.len]) (fun r hr => ?_) fun r i hr hi => ?_)
    · rw [hM.len, hAa.len] at hr
      rw [hM.rlen (by rw [hAa.len]; exact hr), hAa.rlen hr, hA.rlen (by rw [hm.len]; exact hr), hm.rlen hr]
    · rw [hM.len, hAa.len] at hr
      rw [hM.rlen (by rw [hAa.len]; exact hr), hAa.rlen hr] at hi
      rw [hM.vl (by rw [hAa.len]; exact hr) (by rw [hAa.rlen hr]; exact hi), hAa.vl hr hi, hy r i hr hi]
  · rw [est, if_pos hAa.keyErr, est, if_pos hA.keyErr, hm.len]
    have hat : ∀ r, r < a.counts.length → at_ a key r ≤ at_ (merge a b) key r := fun r hr => by
      obtain ⟨p1, p2⟩ := hAa.pl hr
      have e1 := hm.vl hr p2
      have e2 := hvb r _ hr p2
      unfold at_
      rw [hm.wide]
      unfold Sk.vl at e1 e2
      rw [e1]
      omega
    have key : ∀ k, k ≤ a.counts.length → leastTo a key k ≤ leastTo (merge a b) key k := by
      intro k
      induction k with
      | zero => intro _; have := hm.oa.pos; exact hat 0 (by omega)
      | succ k ih =>
        intro hk
        have h1 := ih (by omega)
        have h2 := hat k (by omega)
        show min _ _ ≤ min _ _
        omega
    exact key _ (Nat.le_refl _)
end Go.Sx.Sk

/- Sketches: estimates of what was added; the specification's joins. -/
namespace Go.Sx.Sk
theorem sum_rep (n : Nat) : sum (List.replicate n (0 : Int)) = 0 := by
  unfold sum; induction n with
  | zero => rfl
  | succ n ih => rw [List.replicate_succ, List.sum_cons, ih]; rfl
theorem empty_row {rows wide : Int} {r : Nat} (h : r < rows.toNat) : (empty rows wide).counts.getD r [] = List.replicate wide.toNat 0 := by
  rw [getD_of (by simpa [empty] using h)]; simp [empty]
theorem empty_len {rows wide : Int} : (empty rows wide).counts.length = rows.toNat := by simp [empty]
theorem empty_ok {rows wide : Int} (h : 1 ≤ rows ∧ rows ≤ 6) (h2 : 1 ≤ wide ∧ wide ≤ 64) : Ok (empty rows wide) where
  pos := by rw [empty_len]; omega
  few := by rw [empty_len]; omega
  w1 := h2.1
  w2 := h2.2
  len := fun l hl => by
    obtain ⟨r, hr, rfl⟩ := List.getElem_of_mem hl
    rw [← getD_of (d := []) hr, empty_row (by rw [← empty_len (wide := wide)]; exact hr), List.length_replicate]
    show ((wide.toNat : Nat) : Int) = wide
    omega
  bd := fun l hl n hn => by
    obtain ⟨r, hr, rfl⟩ := List.getElem_of_mem hl
    rw [← getD_of (d := []) hr, empty_row (by rw [← empty_len (wide := wide)]; exact hr)] at hn
    have := List.eq_of_mem_replicate hn
    omega
  same := fun l hl => by
    obtain ⟨r, hr, rfl⟩ := List.getElem_of_mem hl
    rw [← getD_of (d := []) hr, empty_row (by rw [← empty_len (wide := wide)]; exact hr), empty_row (by omega)]
def inR (l : List ByteArray) (i : Int) : Prop := 0 ≤ i ∧ i < (l.length : Int)
structure EI (rows wide : Int) (l : List ByteArray) (i : Int) (s : DSketch) (many : Int) (k : Nat) : Prop where
  le : k ≤ l.length
  ok : Ok s
  wd : s.wide = wide
  len : s.counts.length = rows.toNat
  tot : total s = k
  m0 : 0 ≤ many
  mle : many ≤ k
  up : ∀ r q, r < s.counts.length → q < (s.counts.getD r []).length → vl s.counts r q ≤ k
  ks : ∀ j, j < k → (l.getD j default).size ≤ 40
  lo : inR l i → ∀ r, r < s.counts.length → many ≤ vl s.counts r (place (l.getD i.toNat default) r wide).toNat
theorem EI.start {rows wide : Int} (h : 1 ≤ rows ∧ rows ≤ 6) (h2 : 1 ≤ wide ∧ wide ≤ 64) (l : List ByteArray) (i : Int) : EI rows wide l i (empty rows wide) 0 0 where
  le := Nat.zero_le _
  ok := empty_ok h h2
  wd := rfl
  len := empty_len
  tot := by rw [total, if_pos (check_ok.2 (empty_ok h h2)), empty_row (by omega), sum_rep]; rfl
  m0 := Int.le_refl _
  mle := Int.le_refl _
  up := fun r q hr hq => by
    have hr' : r < rows.toNat := by rw [← empty_len (wide := wide)]; exact hr
    unfold vl
    rw [empty_row hr'] at hq ⊢
    rw [getD_of hq, List.getElem_replicate]
    exact Int.le_refl _
  ks := fun j hj => absurd hj (Nat.not_lt_zero j)
  lo := fun _ r hr => by
    have hr' : r < rows.toNat := by rw [← empty_len (wide := wide)]; exact hr
    unfold vl
    rw [empty_row hr', List.getD_eq_getElem?_getD, List.getElem?_replicate]
    split <;> exact Int.le_refl _
theorem EI.fit {rows wide : Int} {l : List ByteArray} {i : Int} {s : DSketch} {many : Int} {k : Nat} (h : EI rows wide l i s many k) (hk : k < l.length) (hb : l.length ≤ 1048576) (key : ByteArray) : mapOk (addF key s.wide 1) s = true :=
  mapOk_iff.2 fun r q hr hq => by
    have h1 := h.up r q hr hq
    rw [addF_val (h.ok.vl hr hq) (by omega)]
    split <;> omega
theorem EI.bad {rows wide : Int} {l : List ByteArray} {i : Int} {s : DSketch} {many : Int} {k : Nat} (h : EI rows wide l i s many k) (hk : k < l.length) (hb : l.length ≤ 1048576) (hbad : addErr s (l.getD k default) 1 ≠ 0) : (addErr s (l.getD k default) 1 == 2) = true := by
  have h1 := h.fit hk hb (l.getD k default)
  have h2 := check_ok.2 h.ok
  unfold addErr at hbad ⊢
  by_cases c : keyErr s (l.getD k default) = 0
  · rw [if_neg (by simpa using c), if_neg (by omega), if_pos h1] at hbad; exact absurd rfl hbad
  · rw [if_pos c]
    rw [keyErr, if_neg (by simpa using h2)] at c ⊢
    unfold Hash.sumErr at c ⊢
    split
    · rfl
    · rename_i c2; rw [if_neg c2] at c; exact absurd rfl c
theorem EI.next {rows wide : Int} {l : List ByteArray} {i : Int} {s : DSketch} {many : Int} {k : Nat} (h : EI rows wide l i s many k) (hk : k < l.length) (he : addErr s (l.getD k default) 1 = 0) {m' : Int} (hm : (m' = many + 1 ∧ inR l i ∧ l.getD k default = l.getD i.toNat default) ∨ (m' = many ∧ ¬ (inR l i ∧ l.getD k default = l.getD i.toNat default))) : EI rows wide l i (add s (l.getD k default) 1) m' (k + 1) := by
  have hA := addErr_iff.1 he
  have h0 := h.m0; have h1 := h.mle
  refine ⟨hk, hA.after, by rw [hA.wide]; exact h.wd, by rw [hA.len]; exact h.len, by rw [hA.total, h.tot]; rfl, by rcases hm with c | c <;> omega, by rcases hm with c | c <;> omega, fun r q hr hq => ?_, fun j hj => ?_, fun hi r hr => ?_⟩
  · rw [hA.len] at hr
    rw [hA.rlen hr] at hq
    rw [hA.vl hr hq]
    have := h.up r q hr hq
    split <;> omega
  · by_cases e : j = k
    · subst e; exact hA.ks
    · exact h.ks j (by omega)
  · rw [hA.len] at hr
    have hw := place_bd (l.getD i.toNat default) r (wide := wide) (by rw [← h.wd]; exact ⟨h.ok.w1, h.ok.w2⟩)
    have hq : (place (l.getD i.toNat default) r wide).toNat < (s.counts.getD r []).length := by
      have h2 := h.ok.row_len hr
      have h3 := h.wd
      omega
    have h4 := h.lo hi r hr
    rw [hA.vl hr hq]
    rcases hm with ⟨c1, c2, c3⟩ | ⟨c1, c2⟩
    · rw [if_pos (by rw [c3, h.wd]; omega)]; omega
    · split <;> omega
theorem EI.done {rows wide : Int} {l : List ByteArray} {i : Int} {s : DSketch} {many : Int} {k : Nat} (h : EI rows wide l i s many k) (hk : l.length ≤ k) : total s = (l.length : Int) ∧ check s = 0 := by
  have := h.le
  exact ⟨by rw [h.tot]; omega, check_ok.2 h.ok⟩
theorem EI.est {rows wide : Int} {l : List ByteArray} {i : Int} {s : DSketch} {many : Int} {k : Nat} (h : EI rows wide l i s many k) (hk : l.length ≤ k) (hi : inR l i) : keyErr s (l.getD i.toNat default) = 0 ∧ many ≤ Sk.est s (l.getD i.toNat default) ∧ Sk.est s (l.getD i.toNat default) ≤ (l.length : Int) := by
  have hle := h.le
  have hks : (l.getD i.toNat default).size ≤ 40 := h.ks _ (by unfold inR at hi; omega)
  have hke : keyErr s (l.getD i.toNat default) = 0 := by rw [keyErr, if_neg (by simpa using check_ok.2 h.ok)]; exact sumErr_iff.2 hks
  have hat : ∀ r, r < s.counts.length → many ≤ at_ s (l.getD i.toNat default) r ∧ at_ s (l.getD i.toNat default) r ≤ (l.length : Int) := fun r hr => by
    have h1 := h.lo hi r hr
    have hw := place_bd (l.getD i.toNat default) r (wide := wide) (by rw [← h.wd]; exact ⟨h.ok.w1, h.ok.w2⟩)
    have hq : (place (l.getD i.toNat default) r wide).toNat < (s.counts.getD r []).length := by
      have h2 := h.ok.row_len hr
      have h3 := h.wd
      omega
    have h2 := h.up r _ hr hq
    unfold at_
    rw [h.wd]
    unfold vl at h1 h2
    omega
  have key : ∀ n, n ≤ s.counts.length → many ≤ leastTo s (l.getD i.toNat default) n ∧ leastTo s (l.getD i.toNat default) n ≤ (l.length : Int) := by
    intro n
    induction n with
    | zero => intro _; have := h.ok.pos; exact hat 0 (by omega)
    | succ n ih =>
      intro hn
      have h1 := ih (by omega)
      have h2 := hat n (by omega)
      show many ≤ min _ _ ∧ min _ _ ≤ _
      omega
  rw [Sk.est, if_pos hke]
  exact ⟨hke, key _ (Nat.le_refl _)⟩
/-! ### SketchSpec -/
/-- the reference's estimate, on the way -/
def aboutTo (s : DSketch) (key : ByteArray) : Nat → Int
  | 0 => 2199023255552
  | k + 1 => min (aboutTo s key k) (at_ s key k)
theorem at_bd {s : DSketch} (h : Ok s) (key : ByteArray) {r : Nat} (hr : r < s.counts.length) : at_ s key r ≤ 1099511627776 := by
  have hw := place_bd key r (wide := s.wide) ⟨h.w1, h.w2⟩
  have h2 := h.row_len hr
  exact (h.vl (i := (place key r s.wide).toNat) hr (by omega)).2
theorem about_least {s : DSketch} (h : Ok s) (key : ByteArray) : ∀ k, k ≤ s.counts.length → 1 ≤ k → aboutTo s key k = leastTo s key k
  | 0, _, h1 => by omega
  | 1, _, _ => by
    have hp := h.pos
    have := at_bd h key (r := 0) (by omega)
    show min _ _ = min _ _
    show min 2199023255552 (at_ s key 0) = min (at_ s key 0) (at_ s key 0)
    omega
  | k + 2, h2, _ => by
    have ih := about_least h key (k + 1) (by omega) (by omega)
    show min (aboutTo s key (k + 1)) _ = min (leastTo s key (k + 1)) _
    rw [ih]
def okM (many : Int) : Prop := 1 ≤ many ∧ many ≤ 1099511627776
instance (many : Int) : Decidable (okM many) := by unfold okM; infer_instance
/-- the reference's sketch that is added to, on the way -/
structure AI (s : DSketch) (key : ByteArray) (many : Int) (ad : DSketch) (about : Int) (r : Nat) : Prop where
  le : r ≤ s.counts.length
  ab : about = aboutTo s key r
  wd : ad.wide = s.wide
  pr : okM many → PR (addF key s.wide many) s.counts ad.counts r 0
  un : ¬ okM many → ad = s
theorem AI.start (s : DSketch) (key : ByteArray) (many : Int) : AI s key many s 2199023255552 0 := ⟨Nat.zero_le _, rfl, rfl, fun _ => PR.start _ _, fun _ => rfl⟩
theorem AI.shape {s ad : DSketch} {key : ByteArray} {many about : Int} {r : Nat} (h : AI s key many ad about r) : ad.counts.length = s.counts.length ∧ ∀ q, (ad.counts.getD q []).length = (s.counts.getD q []).length := by
  by_cases c : okM many
  · exact ⟨(h.pr c).len, (h.pr c).rlen⟩
  · rw [h.un c]; exact ⟨rfl, fun _ => rfl⟩
theorem AI.bound {s ad : DSketch} {key : ByteArray} {many about : Int} {r : Nat} (h : AI s key many ad about r) (hs : Ok s) (c : okM many) (hr : r < s.counts.length) {p : Nat} (hp : p < (s.counts.getD r []).length) : 0 ≤ (ad.counts.getD r []).getD p default ∧ (ad.counts.getD r []).getD p default ≤ 1099511627776 := by
  rw [(h.pr c).val, if_neg (by omega)]
  exact hs.vl hr hp
theorem AI.yes {s ad : DSketch} {key : ByteArray} {many about : Int} {r : Nat} (h : AI s key many ad about r) (hs : Ok s) (c : okM many) (hr : r < s.counts.length) : AI s key many ⟨ad.wide, ad.counts.set r ((ad.counts.getD r []).set (place key r s.wide).toNat ((ad.counts.getD r []).getD (place key r s.wide).toNat default + many))⟩ (min about (at_ s key r)) (r + 1) := by
  have hw := place_bd key r (wide := s.wide) ⟨hs.w1, hs.w2⟩
  have h2 := hs.row_len hr
  have hp : (place key r s.wide).toNat < (s.counts.getD r []).length := by omega
  have hb := h.bound hs c hr hp
  refine ⟨hr, by rw [h.ab]; rfl, h.wd, fun _ => (h.pr c).one hr hp ?_ ?_, fun hn => absurd c hn⟩
  · have e : ((place key r s.wide).toNat : Int) = place key r s.wide := by omega
    rw [addF_val hb (by unfold okM at c; omega), if_pos e]
  · intro i n hi
    unfold addF
    rw [if_neg (by omega)]
theorem AI.no {s ad : DSketch} {key : ByteArray} {many about : Int} {r : Nat} (h : AI s key many ad about r) (c : ¬ okM many) (hr : r < s.counts.length) : AI s key many ad (min about (at_ s key r)) (r + 1) :=
  ⟨hr, by rw [h.ab]; rfl, h.wd, fun hn => absurd hn c, h.un⟩
theorem AI.est {s ad : DSketch} {key : ByteArray} {many about : Int} {r : Nat} (h : AI s key many ad about r) (hk : keyErr s key = 0) (hr : s.counts.length ≤ r) : about = Sk.est s key := by
  have hs := (key_ok hk).1
  have := h.le; have := hs.pos
  rw [Sk.est, if_pos hk, h.ab, show r = s.counts.length by omega]
  exact about_least hs key _ (Nat.le_refl _) (by omega)
theorem AI.all {s ad : DSketch} {key : ByteArray} {many about : Int} {r : Nat} (h : AI s key many ad about r) (c : okM many) (hr : s.counts.length ≤ r) : ad = ⟨s.wide, mapRows (addF key s.wide many) s.counts⟩ := sk_ext h.wd ((h.pr c).done hr)
/-- what the first condition leaves -/
structure J1 (s : DSketch) (key : ByteArray) (many : Int) (v about : Int) (ad : DSketch) : Prop where
  hv : v = addErr s key many
  ab : about = est s key
  had : v = 0 → ad = add s key many
theorem J1.none {s : DSketch} {key : ByteArray} {many : Int} (h : keyErr s key ≠ 0) : J1 s key many (keyErr s key) 0 zero :=
  ⟨(ad1 h).2.symm, (if_neg h).symm, fun h2 => absurd h2 h⟩
theorem J1.range {s ad : DSketch} {key : ByteArray} {many about : Int} {r : Nat} (h : AI s key many ad about r) (hk : keyErr s key = 0) (hr : s.counts.length ≤ r) (hm : many < 1 ∨ 1099511627776 < many) : J1 s key many 3 about ad :=
  ⟨(ad2 ⟨hk, hm⟩).2.symm, h.est hk hr, fun h2 => by cases h2⟩
theorem J1.full {s ad : DSketch} {key : ByteArray} {many about : Int} {r : Nat} (h : AI s key many ad about r) (hk : keyErr s key = 0) (hr : s.counts.length ≤ r) (hm : okM many) (hf : fits ad.counts = false) : J1 s key many 8 about ad := by
  rw [h.all hm hr] at hf
  exact ⟨(ad3 hk hm hf).2.symm, h.est hk hr, fun h2 => by cases h2⟩
theorem J1.fine {s ad : DSketch} {key : ByteArray} {many about : Int} {r : Nat} (h : AI s key many ad about r) (hk : keyErr s key = 0) (hr : s.counts.length ≤ r) (hm : okM many) (hf : fits ad.counts = true) : J1 s key many 0 about ad := by
  have e := h.all hm hr
  rw [e] at hf
  obtain ⟨q1, q2⟩ := ad4 hk hm hf
  exact ⟨q2.symm, h.est hk hr, fun _ => by rw [q1, mapS, e]; exact (if_pos hf).symm⟩
structure J2 (a b : DSketch) (u o tot : Int) (both half : DSketch) : Prop where
  hu : u = mrgErr a b
  ho : o = halfErr a
  ht : tot = total a
  bo : u = 0 → both = merge a b
  ha : o = 0 → half = halve a
theorem J2.none {a b : DSketch} (h : check a ≠ 0) : J2 a b (check a) (check a) 0 zero zero :=
  ⟨(mg1 h).2.symm, (hv1 h).2.symm, (if_neg h).symm, fun h2 => absurd h2 h, fun h2 => absurd h2 h⟩
theorem half_o {a hf : DSketch} {r : Nat} (hc : check a = 0) (hw : hf.wide = a.wide) (hp : PR halfF a.counts hf.counts r 0) (hr : a.counts.length ≤ r) : (even hf.counts = true → halfErr a = 0 ∧ hf = halve a) ∧ (even hf.counts = false → halfErr a = 4) := by
  have e : hf = mapS halfF a := by rw [half_map (check_ok.1 hc).toForm]; exact sk_ext hw (hp.done hr)
  subst e
  exact ⟨fun h => ⟨(hv3 hc h).2, (hv3 hc h).1.symm⟩, fun h => (hv2 hc h).2⟩
theorem both_u {a b bo : DSketch} {r : Nat} (hc : check a = 0) (hc2 : check b = 0) (h : a.wide = b.wide ∧ (a.counts.length : Int) = b.counts.length) (hw : bo.wide = a.wide) (hp : PR (mrgF b.counts) a.counts bo.counts r 0) (hr : a.counts.length ≤ r) : (fits bo.counts = true → mrgErr a b = 0 ∧ bo = merge a b) ∧ (fits bo.counts = false → mrgErr a b = 8) := by
  have e := sk_ext (q := ⟨a.wide, mapRows (mrgF b.counts) a.counts⟩) hw (hp.done hr)
  subst e
  refine ⟨fun hf => ?_, fun hf => (mg4 hc hc2 h hf).2⟩
  obtain ⟨q1, q2⟩ := mg5 hc hc2 h hf
  exact ⟨q2, by rw [q1, mapS]; exact (if_pos hf).symm⟩
theorem u_kind {a b : DSketch} (hc : check a = 0) (hc2 : check b = 0) (h : a.wide ≠ b.wide ∨ (a.counts.length : Int) ≠ b.counts.length) : mrgErr a b = 7 := (mg3 hc hc2 h).2
theorem u_bad {a b : DSketch} (hc : check a = 0) (hc2 : check b ≠ 0) : mrgErr a b = check b := (mg2 hc hc2).2
theorem J1.zero {s ad : DSketch} {key : ByteArray} {many v about : Int} (h : J1 s key many v about ad) (hv : v ≠ 0) : zero = add s key many := by
  rw [h.hv] at hv; exact (add_bad hv).symm
theorem J2.zu {a b bo hf : DSketch} {u o t : Int} (h : J2 a b u o t bo hf) (hv : u ≠ 0) : zero = merge a b := by
  rw [h.hu] at hv; exact (mrg_bad hv).symm
theorem J2.zo {a b bo hf : DSketch} {u o t : Int} (h : J2 a b u o t bo hf) (hv : o ≠ 0) : zero = halve a := by
  rw [h.ho] at hv; exact (if_neg hv).symm
theorem total_bd (s : DSketch) : 0 ≤ total s ∧ total s ≤ 70368744177664 := by
  unfold total; split
  · rename_i h
    have hs := check_ok.1 h
    have hp := hs.pos
    have h1 := sum_bd (l := s.counts.getD 0 []) (hs.bd _ (row_mem (by omega)))
    have h2 := hs.row_len (show 0 < s.counts.length by omega)
    have h3 := hs.w2
    omega
  · omega
theorem merge_bad2 {a b : DSketch} {key : ByteArray} {many : Int} (h : mrgErr a b = 0) (h2 : addErr a key many ≠ 0 ∨ addErr (merge a b) key many ≠ 0) : (addErr (merge a b) key many != 0) = true := by
  cases e : addErr (merge a b) key many != 0 with
  | true => rfl
  | false =>
    have e1 : addErr (merge a b) key many = 0 := by simpa using e
    rcases h2 with h2 | h2
    · exact absurd (merge_law h e1).1 h2
    · exact absurd e1 h2
end Go.Sx.Sk

/- Least frequently used: the plain functions. -/
namespace Go.Sx
structure DUse where
  key : Int
  count : Int
deriving DecidableEq
instance : Inhabited DUse := ⟨⟨0, 0⟩⟩
def tUse : Ty DUse := ⟨2, fun c => [.int .i64 c.key, .int .i64 c.count], fun _ => rfl⟩
structure DUses where
  room : Int
  list : List DUse
deriving DecidableEq
namespace Lfu
def keysOf (l : List DUse) : List Int := l.map (·.key)
def okCount (x : DUse) : Bool := decide (1 ≤ x.count) && decide (x.count ≤ 1099511627776)
def check (u : DUses) : Int :=
  if Lru.okRoom u.room = false then 3 else if u.room < (u.list.length : Int) then 2 else if Lru.keys (keysOf u.list) ≠ 0 then Lru.keys (keysOf u.list)
  else if u.list.any (fun x => !okCount x) then 3 else 0
/-- What may be touched. -/
structure Ok (u : DUses) : Prop where
  room : 1 ≤ u.room ∧ u.room ≤ 40
  len : (u.list.length : Int) ≤ u.room
  key : ∀ x ∈ u.list, Lru.okKey x.key = true
  once : (keysOf u.list).Nodup
  count : ∀ x ∈ u.list, 1 ≤ x.count ∧ x.count ≤ 1099511627776
theorem check_ok {u : DUses} : check u = 0 ↔ Ok u := by
  unfold check
  constructor
  · intro e
    repeat' split at e
    all_goals first | (exact absurd e (by decide)) | skip
    · contradiction
    · rename_i h1 h2 h3 h4
      have h5 := Lru.keys_ok.1 (Decidable.not_not.1 h3)
      simp [Lru.okRoom] at h1
      refine ⟨by omega, by omega, fun x hx => h5.1 _ (List.mem_map_of_mem hx), h5.2, fun x hx => ?_⟩
      have := List.any_eq_false.1 (Bool.not_eq_true _ ▸ h4) x hx
      simpa [okCount] using this
  · rintro ⟨a, b, c, d, e⟩
    have h5 : Lru.keys (keysOf u.list) = 0 := Lru.keys_ok.2 ⟨fun k hk => by obtain ⟨x, hx, rfl⟩ := List.mem_map.1 hk; exact c x hx, d⟩
    rw [if_neg (by simp [Lru.okRoom]; omega), if_neg (by omega), if_neg (by simp [h5]), if_neg]
    rw [Bool.not_eq_true, List.any_eq_false]
    intro x hx
    have := e x hx
    simp [okCount]; omega
theorem ok_of {u : DUses} (h : check u = 0) : Ok u := check_ok.1 h
def leastTo (l : List DUse) : Nat → Nat
  | 0 => 0
  | k + 1 => if (l.getD k default).count ≤ (l.getD (leastTo l k) default).count then k else leastTo l k
def least (l : List DUse) : Nat := leastTo l l.length
abbrev at_ (l : List DUse) (key : Int) : Int := idxF (fun x : DUse => (x.key == key)) l
def cap (n : Int) : Int := min (n + 1) 1099511627776
def touch (u : DUses) (key : Int) : DUses × Bool × Int :=
  if 0 ≤ at_ u.list key then (⟨u.room, ⟨(u.list.getD (at_ u.list key).toNat default).key, cap (u.list.getD (at_ u.list key).toNat default).count⟩ :: u.list.eraseIdx (at_ u.list key).toNat⟩, true, -1)
  else if (u.list.length : Int) = u.room then (⟨u.room, ⟨key, 1⟩ :: u.list.eraseIdx (least u.list)⟩, false, (u.list.getD (least u.list) default).key)
  else (⟨u.room, ⟨key, 1⟩ :: u.list⟩, false, -1)
def zero : DUses := ⟨0, []⟩
def accessErr (u : DUses) (key : Int) : Int := if check u = 0 then (if Lru.okKey key then 0 else 3) else check u
def access (u : DUses) (key : Int) : DUses × Bool × Int := if accessErr u key = 0 then touch u key else (zero, false, 0)
def runGo (u : DUses) (n : Int) : List Int → DUses × Int
  | [] => (u, n)
  | k :: l => runGo (touch u k).1 (if (touch u k).2.1 then n + 1 else n) l
def runErr (u : DUses) (l : List Int) : Int := if check u = 0 then Lru.trace l else check u
def run (u : DUses) (l : List Int) : DUses × Int := if runErr u l = 0 then runGo u 0 l else (zero, 0)
def old (x : DUse) : DUse := ⟨x.key, max 1 (x.count.tdiv 2)⟩
def age (u : DUses) : DUses := if check u = 0 then ⟨u.room, u.list.map old⟩ else zero
def victimErr (u : DUses) : Int := if check u = 0 then (if u.list.length = 0 then 5 else 0) else check u
def victim (u : DUses) : Int := if victimErr u = 0 then (u.list.getD (least u.list) default).key else 0
end Lfu
end Go.Sx

/- Least frequently used: what a touch and a run do. -/
namespace Go.Sx.Lfu
open Lru (okKey trace_ok)
theorem at_lt (l : List DUse) (key : Int) : at_ l key < l.length ∧ -1 ≤ at_ l key := idxF_lt _ _
theorem at_pos {l : List DUse} {key : Int} (h : 0 ≤ at_ l key) : ∃ h' : (at_ l key).toNat < l.length, (l[(at_ l key).toNat]).key = key := by
  rcases idxF_cases (fun x : DUse => (x.key == key)) l with ⟨k, hk, e, h1, _⟩ | ⟨e, _⟩
  · have e2 : (at_ l key).toNat = k := by unfold at_; rw [e]; rfl
    simp only [e2]; exact ⟨hk, by simpa using h1⟩
  · unfold at_ at h; omega
theorem at_neg {l : List DUse} {key : Int} : at_ l key < 0 ↔ ∀ x ∈ l, x.key ≠ key := by
  constructor
  · intro h x hx hk
    rcases idxF_cases (fun x : DUse => (x.key == key)) l with ⟨k, _, e, _⟩ | ⟨_, h2⟩
    · unfold at_ at h; omega
    · have := h2 x hx; simp [hk] at this
  · intro h
    have e := idxF_none (f := fun f : DUse => (f.key == key)) (l := l) (fun j hj => by simpa using h _ (List.getElem_mem hj))
    have e2 : at_ l key = -1 := e.symm
    omega
theorem at_found {l : List DUse} {key : Int} {i : Nat} (hl : i < l.length) (hk : l[i].key = key) (hn : ∀ j (h : j < l.length), j < i → l[j].key ≠ key) : at_ l key = i :=
  (idxF_found (f := fun f : DUse => (f.key == key)) hl (by simpa using hk) (fun j h h2 => by simpa using hn j h h2)).symm
theorem leastTo_lt {l : List DUse} : ∀ k, k ≤ l.length → 0 < l.length → leastTo l k < l.length
  | 0, _, h => h
  | k + 1, hk, h => by
    rw [leastTo]; split
    · omega
    · exact leastTo_lt k (by omega) h
theorem least_lt {l : List DUse} (h : 0 < l.length) : least l < l.length := leastTo_lt _ (Nat.le_refl _) h
/-- the last of the least among the first k -/
theorem leastTo_min {l : List DUse} : ∀ k, k ≤ l.length → ∀ j (hj : j < l.length), j < k → (l.getD (leastTo l k) default).count ≤ l[j].count ∧ (j ≤ leastTo l k ∨ (l.getD (leastTo l k) default).count < l[j].count)
  | 0, _, _, _, h => absurd h (by omega)
  | k + 1, hk, j, hj, hjk => by
    rw [leastTo]
    have ih := leastTo_min (l := l) k (by omega) j hj
    have e : (l.getD k default) = l[k] := by simp [List.getD, show k < l.length by omega]
    split
    · rename_i h
      rw [e] at h ⊢
      by_cases hjk2 : j = k
      · subst hjk2; exact ⟨Int.le_refl _, .inl (Nat.le_refl _)⟩
      · have := ih (by omega); exact ⟨by omega, .inl (by omega)⟩
    · rename_i h
      by_cases hjk2 : j = k
      · subst hjk2
        rw [e] at h
        exact ⟨by omega, .inr (by omega)⟩
      · exact ih (by omega)
theorem least_get {l : List DUse} (h0 : 0 < l.length) : (l.getD (leastTo l l.length) default) = l[least l]'(least_lt h0) := by simp [least, List.getD, show leastTo l l.length < l.length from least_lt h0]
theorem least_min {l : List DUse} (h0 : 0 < l.length) : ∀ t ∈ l, (l[least l]'(least_lt h0)).count ≤ t.count := by
  intro t ht
  obtain ⟨j, hj, rfl⟩ := List.getElem_of_mem ht
  have := (leastTo_min l.length (Nat.le_refl _) j hj hj).1
  rw [least_get h0] at this; exact this
theorem least_last {l : List DUse} (h0 : 0 < l.length) {i : Nat} (hi : i < l.length) (h : ∀ t ∈ l, l[i].count ≤ t.count) (h2 : ∀ j (hj : j < l.length), i < j → ∃ t ∈ l, t.count < l[j].count) : i = least l := by
  have hl := least_lt h0
  rcases Nat.lt_trichotomy (least l) i with hlt | he | hgt
  · have h3 := leastTo_min l.length (Nat.le_refl _) i hi hi
    rw [least_get h0] at h3
    have := h _ (List.getElem_mem hl)
    unfold least at hlt; omega
  · exact he.symm
  · obtain ⟨t, ht, hw⟩ := h2 _ hl hgt
    have := least_min h0 t ht; omega
structure BInv (l : List DUse) (best : Int) (k : Nat) : Prop where
  le : k ≤ l.length
  eq : best = (leastTo l k : Int)
theorem BInv.start (l : List DUse) : BInv l 0 0 := ⟨Nat.zero_le _, rfl⟩
theorem BInv.bd {l : List DUse} {best : Int} {k : Nat} (h : BInv l best k) (hl : 0 < l.length) : 0 ≤ best ∧ best < l.length := by
  have := leastTo_lt (l := l) k h.le hl; rw [h.eq]; omega
theorem BInv.less {l : List DUse} {best : Int} {k : Nat} (h : BInv l best k) (hk : k < l.length) (hb : best.toNat < l.length) (hw : l[k].count ≤ l[best.toNat].count) : BInv l (k : Int) (k + 1) := by
  obtain ⟨h1, rfl⟩ := h
  simp only [Int.toNat_natCast] at hw hb
  exact ⟨hk, by rw [leastTo]; simp [List.getD, hk, hb, hw]⟩
theorem BInv.not {l : List DUse} {best : Int} {k : Nat} (h : BInv l best k) (hk : k < l.length) (hb : best.toNat < l.length) (hw : l[best.toNat].count < l[k].count) : BInv l best (k + 1) := by
  obtain ⟨h1, rfl⟩ := h
  simp only [Int.toNat_natCast] at hw hb
  exact ⟨hk, by rw [leastTo]; simp [List.getD, hk, hb, Int.not_le.2 hw]⟩
theorem BInv.done {l : List DUse} {best : Int} {k : Nat} (h : BInv l best k) (hk : (l.length : Int) ≤ k) : best = (least l : Int) := by
  have := h.le
  rw [h.eq, least, show k = l.length by omega]
/-! ### a touch -/
theorem touch_hit {u : DUses} {key : Int} (h : 0 ≤ at_ u.list key) (hl : (at_ u.list key).toNat < u.list.length) : touch u key = (⟨u.room, ⟨(u.list[(at_ u.list key).toNat]).key, cap (u.list[(at_ u.list key).toNat]).count⟩ :: u.list.eraseIdx (at_ u.list key).toNat⟩, true, -1) := by
  unfold touch; rw [if_pos h]; simp [List.getD, hl]
theorem touch_full {u : DUses} {key : Int} (h : at_ u.list key < 0) (hf : (u.list.length : Int) = u.room) (hl : least u.list < u.list.length) : touch u key = (⟨u.room, ⟨key, 1⟩ :: u.list.eraseIdx (least u.list)⟩, false, (u.list[least u.list]).key) := by
  unfold touch; rw [if_neg (by omega), if_pos hf]; simp [List.getD, hl]
theorem touch_add {u : DUses} {key : Int} (h : at_ u.list key < 0) (hf : (u.list.length : Int) ≠ u.room) : touch u key = (⟨u.room, ⟨key, 1⟩ :: u.list⟩, false, -1) := by
  unfold touch; rw [if_neg (by omega), if_neg hf]
theorem keys_erase (l : List DUse) (i : Nat) : keysOf (l.eraseIdx i) = (keysOf l).eraseIdx i := by
  unfold keysOf; induction l generalizing i with
  | nil => rfl
  | cons a l ih => cases i with
    | zero => rfl
    | succ i => simp [ih]
theorem not_mem_erase {l : List DUse} {i : Nat} (hn : (keysOf l).Nodup) (hi : i < l.length) : ∀ x ∈ l.eraseIdx i, x.key ≠ l[i].key := by
  intro x hx e
  obtain ⟨j, hj, hne, rfl⟩ := List.mem_eraseIdx_iff_getElem.1 hx
  have h1 := List.pairwise_iff_getElem.1 hn
  have hj' : j < (keysOf l).length := by simpa [keysOf] using hj
  have hi' : i < (keysOf l).length := by simpa [keysOf] using hi
  rcases Nat.lt_or_gt_of_ne hne with h | h
  · exact h1 j i hj' hi' h (by simpa [keysOf] using e)
  · exact h1 i j hi' hj' h (by simpa [keysOf] using e.symm)
theorem cap_bd {n : Int} (h : 0 ≤ n) : 1 ≤ cap n ∧ cap n ≤ 1099511627776 := by unfold cap; omega
theorem Ok.touch {u : DUses} (h : Ok u) {key : Int} (hk : okKey key = true) : Ok (touch u key).1 := by
  obtain ⟨a, b, c, d, e⟩ := h
  by_cases hh : at_ u.list key < 0
  · have hn := at_neg.1 hh
    by_cases hf : (u.list.length : Int) = u.room
    · have hl := least_lt (l := u.list) (by omega)
      rw [touch_full hh hf hl]
      have he := List.length_eraseIdx_of_lt hl
      refine ⟨a, by simp only [List.length_cons]; omega, ?_, ?_, ?_⟩
      · intro x hx; rcases List.mem_cons.1 hx with rfl | hx
        · exact hk
        · exact c x (List.mem_of_mem_eraseIdx hx)
      · refine List.nodup_cons.2 ⟨fun hm => ?_, ?_⟩
        · obtain ⟨x, hx, hxe⟩ := List.mem_map.1 hm
          exact hn x (List.mem_of_mem_eraseIdx hx) hxe
        · exact d.sublist ((List.eraseIdx_sublist _ _).map _)
      · intro x hx; rcases List.mem_cons.1 hx with rfl | hx
        · exact ⟨Int.le_refl 1, show (1 : Int) ≤ 1099511627776 by decide⟩
        · exact e x (List.mem_of_mem_eraseIdx hx)
    · rw [touch_add hh hf]
      refine ⟨a, by simp only [List.length_cons]; omega, ?_, ?_, ?_⟩
      · intro x hx; rcases List.mem_cons.1 hx with rfl | hx
        · exact hk
        · exact c x hx
      · refine List.nodup_cons.2 ⟨fun hm => ?_, d⟩
        obtain ⟨x, hx, hxe⟩ := List.mem_map.1 hm
        exact hn x hx hxe
      · intro x hx; rcases List.mem_cons.1 hx with rfl | hx
        · exact ⟨Int.le_refl 1, show (1 : Int) ≤ 1099511627776 by decide⟩
        · exact e x hx
  · obtain ⟨hl, hkey⟩ := at_pos (l := u.list) (key := key) (by omega)
    rw [touch_hit (by omega) hl]
    have hm := List.getElem_mem hl
    have he := List.length_eraseIdx_of_lt hl
    refine ⟨a, by simp only [List.length_cons]; omega, ?_, ?_, ?_⟩
    · intro x hx; rcases List.mem_cons.1 hx with rfl | hx
      · have h9 := c _ hm; exact h9
      · exact c x (List.mem_of_mem_eraseIdx hx)
    · refine List.nodup_cons.2 ⟨fun hm2 => ?_, d.sublist ((List.eraseIdx_sublist _ _).map _)⟩
      obtain ⟨x, hx, hxe⟩ := List.mem_map.1 hm2
      exact not_mem_erase d hl x hx hxe
    · intro x hx; rcases List.mem_cons.1 hx with rfl | hx
      · exact cap_bd (by have := e _ hm; omega)
      · exact e x (List.mem_of_mem_eraseIdx hx)
/-! ### access and run -/
theorem acc_cases (c : DUses) (key : Int) : (check c ≠ 0 ∧ access c key = (zero, false, 0) ∧ accessErr c key = check c) ∨ (check c = 0 ∧ Lru.okKey key = false ∧ access c key = (zero, false, 0) ∧ accessErr c key = 3) ∨ (check c = 0 ∧ Lru.okKey key = true ∧ access c key = touch c key ∧ accessErr c key = 0) := by
  by_cases hc : check c = 0
  · cases hr : Lru.okKey key
    · have e : accessErr c key = 3 := by unfold accessErr; rw [if_pos hc, if_neg (by simp [hr])]
      exact .inr (.inl ⟨hc, rfl, by unfold access; rw [e]; rfl, e⟩)
    · have e : accessErr c key = 0 := by unfold accessErr; rw [if_pos hc, if_pos hr]
      exact .inr (.inr ⟨hc, rfl, by unfold access; rw [if_pos e], e⟩)
  · have e : accessErr c key = check c := by unfold accessErr; rw [if_neg hc]
    exact .inl ⟨hc, by unfold access; rw [e, if_neg hc], e⟩
theorem acc_bad {c : DUses} {key : Int} (e : accessErr c key ≠ 0) : access c key = (zero, false, 0) := if_neg e
theorem acc_ok {c : DUses} {key : Int} (e : accessErr c key = 0) : check c = 0 ∧ Lru.okKey key = true ∧ access c key = touch c key := by
  rcases acc_cases c key with ⟨a, b, d⟩ | ⟨a, a2, b, d⟩ | ⟨a, a2, b, d⟩
  · exact absurd (d ▸ e) a
  · rw [d] at e; cases e
  · exact ⟨a, a2, b⟩
theorem run_cases (c : DUses) (l : List Int) : (check c ≠ 0 ∧ run c l = (zero, 0) ∧ runErr c l = check c) ∨ (check c = 0 ∧ Lru.trace l ≠ 0 ∧ run c l = (zero, 0) ∧ runErr c l = Lru.trace l) ∨ (check c = 0 ∧ Lru.trace l = 0 ∧ run c l = runGo c 0 l ∧ runErr c l = 0) := by
  by_cases h : check c = 0
  · have e : runErr c l = Lru.trace l := by unfold runErr; rw [if_pos h]
    by_cases h2 : Lru.trace l = 0
    · exact .inr (.inr ⟨h, h2, by unfold run; rw [if_pos (e.trans h2)], e.trans h2⟩)
    · exact .inr (.inl ⟨h, h2, by unfold run; rw [if_neg (by rw [e]; exact h2)], e⟩)
  · have e : runErr c l = check c := by unfold runErr; rw [if_neg h]
    exact .inl ⟨h, by unfold run; rw [if_neg (by rw [e]; exact h)], e⟩
theorem run_bad {c : DUses} {l : List Int} (e : runErr c l ≠ 0) : run c l = (zero, 0) := if_neg e
theorem run_ok {c : DUses} {l : List Int} (e : runErr c l = 0) : check c = 0 ∧ Lru.trace l = 0 ∧ run c l = runGo c 0 l := by
  rcases run_cases c l with ⟨a, b, d⟩ | ⟨a, a2, b, d⟩ | ⟨a, a2, b, d⟩
  · exact absurd (d ▸ e) a
  · exact absurd (d ▸ e) a2
  · exact ⟨a, a2, b⟩
structure RInv (c cc : DUses) (l : List Int) (n : Int) (k : Nat) : Prop where
  ok : Ok cc
  key : ∀ x ∈ l, Lru.okKey x = true
  n0 : 0 ≤ n
  n1 : n ≤ (k : Int)
  le : k ≤ l.length
  go : runGo cc n (l.drop k) = runGo c 0 l
theorem RInv.start {c : DUses} {l : List Int} (h : Ok c) (hk : ∀ x ∈ l, Lru.okKey x = true) : RInv c c l 0 0 := ⟨h, hk, Int.le_refl _, Int.le_refl _, Nat.zero_le _, rfl⟩
theorem RInv.start' {c : DUses} {l : List Int} (h : check c = 0) (hk : Lru.trace l = 0) : RInv c c l 0 0 := RInv.start (ok_of h) (Lru.trace_ok.1 hk).2
theorem RInv.hit {c cc : DUses} {l : List Int} {n : Int} {k : Nat} (h : RInv c cc l n k) (hk : k < l.length) (ht : (Lfu.touch cc l[k]).2.1 = true) : RInv c (Lfu.touch cc l[k]).1 l (n + 1) (k + 1) := by
  obtain ⟨g1, g0, g2, g3, g4, g5⟩ := h
  rw [List.drop_eq_getElem_cons hk, runGo, if_pos ht] at g5
  exact ⟨g1.touch (g0 _ (List.getElem_mem hk)), g0, by omega, by omega, hk, g5⟩
theorem RInv.miss {c cc : DUses} {l : List Int} {n : Int} {k : Nat} (h : RInv c cc l n k) (hk : k < l.length) (ht : (Lfu.touch cc l[k]).2.1 = false) : RInv c (Lfu.touch cc l[k]).1 l n (k + 1) := by
  obtain ⟨g1, g0, g2, g3, g4, g5⟩ := h
  rw [List.drop_eq_getElem_cons hk, runGo, if_neg (by simp [ht])] at g5
  exact ⟨g1.touch (g0 _ (List.getElem_mem hk)), g0, by omega, by omega, hk, g5⟩
theorem RInv.done {c cc : DUses} {l : List Int} {n : Int} {k : Nat} (h : RInv c cc l n k) (hk : (l.length : Int) ≤ k) : runGo c 0 l = (cc, n) := by
  rw [← h.go, List.drop_of_length_le (by omega)]; rfl
theorem Ok.runGo {l : List Int} : ∀ {c : DUses} {n : Int}, Ok c → (∀ x ∈ l, Lru.okKey x = true) → Ok (runGo c n l).1 := by
  induction l with
  | nil => intro c n h _; exact h
  | cons k l ih => intro c n h hk; exact ih (h.touch (hk k (by simp))) (fun x hx => hk x (by simp [hx]))
theorem runGo_append {l m : List Int} : ∀ {c : DUses} {n : Int}, Lfu.runGo c n (l ++ m) = Lfu.runGo (Lfu.runGo c n l).1 (Lfu.runGo c n l).2 m := by
  induction l with
  | nil => intro c n; rfl
  | cons k l ih => intro c n; rw [List.cons_append, Lfu.runGo, ih]; rfl
theorem runGo_add {l : List Int} : ∀ {c : DUses} {n : Int}, Lfu.runGo c n l = ((Lfu.runGo c 0 l).1, n + (Lfu.runGo c 0 l).2) := by
  induction l with
  | nil => intro c n; simp [Lfu.runGo]
  | cons k l ih =>
    intro c n
    rw [Lfu.runGo, ih, Lfu.runGo, ih (n := if (Lfu.touch c k).2.1 = true then 0 + 1 else 0)]
    split <;> simp <;> omega
theorem touch_room (c : DUses) (k : Int) : (Lfu.touch c k).1.room = c.room := by unfold Lfu.touch; split; rfl; split <;> rfl
theorem runGo_room {l : List Int} : ∀ {c : DUses} {n : Int}, (Lfu.runGo c n l).1.room = c.room := by
  induction l with
  | nil => intro c n; rfl
  | cons k l ih => intro c n; rw [Lfu.runGo, ih]; exact touch_room c k
end Go.Sx.Lfu

/- LFU: how the checks read. -/
namespace Go.Sx.Lfu
theorem chk1 {u : DUses} (h : Lru.okRoom u.room = false) : 3 = check u := by rw [check, if_pos h]
theorem chk2 {u : DUses} (h : Lru.okRoom u.room = true) (h2 : u.room < (u.list.length : Int)) : 2 = check u := by rw [check, if_neg (by simp [h]), if_pos h2]
theorem chk3 {u : DUses} {ks : List Int} (hk : ks = keysOf u.list) (h : Lru.okRoom u.room = true) (h2 : (u.list.length : Int) ≤ u.room) (h3 : Lru.keys ks ≠ 0) : Lru.keys ks = check u := by
  rw [check, if_neg (by simp [h]), if_neg (by omega), ← hk, if_pos h3]
theorem chk4 {u : DUses} {ks : List Int} (hk : ks = keysOf u.list) (h : Lru.okRoom u.room = true) (h2 : (u.list.length : Int) ≤ u.room) (h3 : Lru.keys ks = 0) (h4 : u.list.any (fun x => !okCount x) = true) : 3 = check u := by
  rw [check, if_neg (by simp [h]), if_neg (by omega), ← hk, if_neg (by simp [h3]), if_pos h4]
theorem chk5 {u : DUses} {ks : List Int} (hk : ks = keysOf u.list) (h : Lru.okRoom u.room = true) (h2 : (u.list.length : Int) ≤ u.room) (h3 : Lru.keys ks = 0) (h4 : u.list.any (fun x => !okCount x) = false) : 0 = check u := by
  rw [check, if_neg (by simp [h]), if_neg (by omega), ← hk, if_neg (by simp [h3]), if_neg (by simp [h4])]
theorem keys_step {l : List DUse} {k : Nat} (h : k < l.length) : keysOf (l.take k) ++ [l[k].key] = keysOf (l.take (k + 1)) := by
  rw [List.take_succ_eq_append_getElem h, keysOf, keysOf, List.map_append]; rfl
theorem keys_len {l : List DUse} {k : Nat} (h : k ≤ l.length) : (keysOf (l.take k)).length = k := by simp [keysOf]; omega
theorem keys_all {l : List DUse} {k : Nat} (h : l.length ≤ k) : keysOf (l.take k) = keysOf l := by rw [List.take_of_length_le h]
theorem count_at {u : DUses} (h : Ok u) {i : Nat} (hi : i < u.list.length) : 1 ≤ (u.list.getD i default).count ∧ (u.list.getD i default).count ≤ 1099511627776 := by
  have e : u.list.getD i default = u.list[i] := by simp [List.getD, hi]
  rw [e]; exact h.count _ (List.getElem_mem hi)
theorem cut_take {l : List DUse} {i : Int} (h : 0 ≤ i) : l.take i.toNat ++ l.drop (i + 1).toNat = l.eraseIdx i.toNat := by
  rw [List.eraseIdx_eq_take_drop_succ, show (i + 1).toNat = i.toNat + 1 by omega]
theorem t_hit {u : DUses} {key : Int} (h : 0 ≤ at_ u.list key) : touch u key = (⟨u.room, ⟨(u.list.getD (at_ u.list key).toNat default).key, min ((u.list.getD (at_ u.list key).toNat default).count + 1) 1099511627776⟩ :: (u.list.take (at_ u.list key).toNat ++ u.list.drop (at_ u.list key + 1).toNat)⟩, true, -1) := by
  rw [cut_take h]; unfold touch; rw [if_pos h]; rfl
theorem t_full {u : DUses} {key : Int} (h : at_ u.list key < 0) (hf : (u.list.length : Int) = u.room) : touch u key = (⟨u.room, ⟨key, min (0 + 1) 1099511627776⟩ :: (u.list.take ((least u.list : Int)).toNat ++ u.list.drop ((least u.list : Int) + 1).toNat)⟩, false, (u.list.getD ((least u.list : Int)).toNat default).key) := by
  rw [cut_take (by omega)]; unfold touch; rw [if_neg (by omega), if_pos hf]; rfl
theorem t_add {u : DUses} {key : Int} (h : at_ u.list key < 0) (hf : (u.list.length : Int) ≠ u.room) : touch u key = (⟨u.room, ⟨key, min (0 + 1) 1099511627776⟩ :: u.list⟩, false, -1) := by
  unfold touch; rw [if_neg (by omega), if_neg hf]; rfl
theorem ins0 (l : List DUse) (k : DUse) : l.take (0 : Int).toNat ++ [k] ++ l.drop (0 : Int).toNat = k :: l := rfl
theorem acc1 {c : DUses} {key : Int} (e : check c ≠ 0) : access c key = (zero, false, 0) ∧ accessErr c key = check c := by
  rcases acc_cases c key with ⟨_, b⟩ | ⟨a, _⟩ | ⟨a, _⟩
  · exact b
  · exact absurd a e
  · exact absurd a e
theorem acc2 {c : DUses} {key : Int} (e : check c = 0 ∧ Lru.okKey key = false) : access c key = (zero, false, 0) ∧ accessErr c key = 3 := by
  rcases acc_cases c key with ⟨a, _⟩ | ⟨_, _, b⟩ | ⟨_, b, _⟩
  · exact absurd e.1 a
  · exact b
  · rw [e.2] at b; cases b
theorem acc3 {c : DUses} {key : Int} (e2 : ¬ check c = 0 ∨ Lru.okKey key = true) (e : check c = 0) : access c key = touch c key ∧ accessErr c key = 0 := by
  rcases acc_cases c key with ⟨a, _⟩ | ⟨_, b, _⟩ | ⟨_, _, b⟩
  · exact absurd e a
  · rcases e2 with e2 | e2
    · exact absurd e e2
    · rw [e2] at b; cases b
  · exact b
theorem run1 {c : DUses} {l : List Int} (e : check c ≠ 0) : run c l = (zero, 0) ∧ runErr c l = check c := by
  rcases run_cases c l with ⟨_, b⟩ | ⟨a, _⟩ | ⟨a, _⟩
  · exact b
  · exact absurd a e
  · exact absurd a e
theorem run2 {c : DUses} {l : List Int} (e : check c = 0) (e2 : Lru.trace l ≠ 0) : run c l = (zero, 0) ∧ runErr c l = Lru.trace l := by
  rcases run_cases c l with ⟨a, _⟩ | ⟨_, _, b⟩ | ⟨_, a, _⟩
  · exact absurd e a
  · exact b
  · exact absurd a e2
theorem run3 {c : DUses} {l : List Int} (e : check c = 0) (e2 : Lru.trace l = 0) : run c l = runGo c 0 l ∧ runErr c l = 0 := by
  rcases run_cases c l with ⟨a, _⟩ | ⟨_, a, _⟩ | ⟨_, _, b⟩
  · exact absurd e a
  · exact absurd e2 a
  · exact b
theorem vic1 {u : DUses} (e : check u ≠ 0) : 0 = victim u ∧ check u = victimErr u := by
  have e1 : victimErr u = check u := by unfold victimErr; rw [if_neg e]
  exact ⟨by unfold victim; rw [if_neg (by rw [e1]; exact e)], e1.symm⟩
theorem vic2 {u : DUses} (e : check u = 0) (h : u.list.length = 0) : 0 = victim u ∧ 5 = victimErr u := by
  have e1 : victimErr u = 5 := by unfold victimErr; rw [if_pos e, if_pos h]
  exact ⟨by unfold victim; rw [if_neg (by rw [e1]; decide)], e1.symm⟩
theorem vic3 {u : DUses} (e : check u = 0) (h : 0 < u.list.length) (h2 : ((least u.list : Int)).toNat < u.list.length) : (u.list[((least u.list : Int)).toNat]).key = victim u ∧ 0 = victimErr u := by
  have e1 : victimErr u = 0 := by unfold victimErr; rw [if_pos e, if_neg (by omega)]
  refine ⟨?_, e1.symm⟩
  unfold victim; rw [if_pos e1]
  have h3 : least u.list < u.list.length := by simpa using h2
  simp [List.getD, h3]
structure GInv (l m : List DUse) (k : Nat) : Prop where
  le : k ≤ l.length
  len : m.length = l.length
  at_ : ∀ j (h : j < m.length) (h2 : j < l.length), m[j] = if j < k then old l[j] else l[j]
theorem GInv.start (l : List DUse) : GInv l l 0 := ⟨Nat.zero_le _, rfl, fun j h h2 => by simp⟩
theorem GInv.next {l m : List DUse} {k : Nat} (h : GInv l m k) (hk : k < m.length) : GInv l (m.set k ⟨m[k].key, max 1 (m[k].count.tdiv 2)⟩) (k + 1) := by
  have hl := h.len
  refine ⟨by omega, by rw [List.length_set]; exact hl, fun j h1 h2 => ?_⟩
  rw [List.getElem_set]
  have h3 := h.at_ k hk (by omega)
  rw [if_neg (by omega)] at h3
  by_cases e : k = j
  · subst e; rw [if_pos rfl, if_pos (by omega), h3]; rfl
  · rw [if_neg e, h.at_ j (by simpa using h1) h2]
    by_cases g : j < k
    · rw [if_pos g, if_pos (by omega)]
    · rw [if_neg g, if_neg (by omega)]
theorem GInv.done {l m : List DUse} {k : Nat} (h : GInv l m k) (hk : l.length ≤ k) : m = l.map old := by
  have hl := h.len
  refine List.ext_getElem (by simp [hl]) fun j h1 h2 => ?_
  rw [h.at_ j h1 (by omega), if_pos (by omega), List.getElem_map]
theorem GInv.cnt {u : DUses} {m : List DUse} {k : Nat} (h : GInv u.list m k) (ho : Ok u) (hk : k < m.length) : 1 ≤ m[k].count ∧ m[k].count ≤ 1099511627776 := by
  have hl := h.len
  rw [h.at_ k hk (by omega), if_neg (by omega)]; exact ho.count _ (List.getElem_mem _)
theorem half_bd {a : Int} (h : 1 ≤ a ∧ a ≤ 1099511627776) : 0 ≤ a.tdiv 2 ∧ a.tdiv 2 ≤ 1099511627776 := by
  rw [Int.tdiv_eq_ediv_of_nonneg (by omega)]; omega
def KInv (u : DUses) (e : Int) (i : Nat) : Prop := i ≤ u.list.length ∧ e = (if Lru.keys (keysOf u.list) ≠ 0 then Lru.keys (keysOf u.list) else if (u.list.take i).any (fun x => !okCount x) = true then 3 else 0)
theorem KInv.start {u : DUses} {ks : List Int} (h : ks = keysOf u.list) : KInv u (Lru.keys ks) 0 := by
  subst h; refine ⟨Nat.zero_le _, ?_⟩
  split
  · rfl
  · rename_i g; simpa using g
theorem KInv.zero {u : DUses} {e : Int} {i : Nat} (h : KInv u e i) (h0 : e = 0) : Lru.keys (keysOf u.list) = 0 ∧ (u.list.take i).any (fun x => !okCount x) = false := by
  have h2 := h.2; rw [h0] at h2
  split at h2
  · rename_i g; exact absurd h2.symm g
  · split at h2
    · cases h2
    · rename_i g1 g2; exact ⟨Decidable.not_not.1 g1, Bool.not_eq_true _ ▸ g2⟩
theorem between_ok {x : DUse} : Ref.between x.count 1 1099511627776 = okCount x := by
  simp [Ref.between, okCount]
theorem KInv.ok {u : DUses} {e : Int} {i : Nat} (h : KInv u e i) (h0 : e = 0) (hi : i < u.list.length) (hb : Ref.between u.list[i].count 1 1099511627776 = true) : KInv u e (i + 1) := by
  obtain ⟨h1, h2⟩ := h.zero h0
  refine ⟨hi, ?_⟩
  rw [between_ok] at hb
  rw [if_neg (by simp [h1]), List.take_succ_eq_append_getElem hi, List.any_append, h2]
  simp [hb, h0]
theorem KInv.bad {u : DUses} {e : Int} {i : Nat} (h : KInv u e i) (h0 : e = 0) (hi : i < u.list.length) (hb : Ref.between u.list[i].count 1 1099511627776 = false) : KInv u 3 (i + 1) := by
  obtain ⟨h1, h2⟩ := h.zero h0
  refine ⟨hi, ?_⟩
  rw [between_ok] at hb
  rw [if_neg (by simp [h1]), List.take_succ_eq_append_getElem hi, List.any_append, h2]
  simp [hb]
theorem KInv.done {u : DUses} {e : Int} {i : Nat} (h : KInv u e i) (hd : (i : Int) < u.list.length → e ≠ 0) (h1 : Lru.okRoom u.room = true) (h2 : (u.list.length : Int) ≤ u.room) : e = check u := by
  rw [check, if_neg (by simp [h1]), if_neg (by omega), h.2]
  by_cases g : Lru.keys (keysOf u.list) ≠ 0
  · rw [if_pos g, if_pos g]
  · rw [if_neg g, if_neg g]
    by_cases hi : (i : Int) < u.list.length
    · have hne := hd hi
      rw [h.2, if_neg g] at hne
      have hany : (u.list.take i).any (fun x => !okCount x) = true := by
        by_cases g2 : (u.list.take i).any (fun x => !okCount x) = true
        · exact g2
        · rw [if_neg g2] at hne; exact absurd rfl hne
      have hall : u.list.any (fun x => !okCount x) = true := by
        obtain ⟨x, hx, hx2⟩ := List.any_eq_true.1 hany
        exact List.any_eq_true.2 ⟨x, List.mem_of_mem_take hx, hx2⟩
      rw [if_pos hany, if_pos hall]
    · rw [List.take_of_length_le (by omega)]
structure DInv (l : List DUse) (i : Int) (less : Bool) (k : Nat) : Prop where
  le : k ≤ l.length
  iff : less = true ↔ ∃ (j : Nat) (h : j < l.length) (h2 : i.toNat < l.length), j < k ∧ l[j].count < (l[i.toNat]).count
theorem DInv.start (l : List DUse) (i : Int) : DInv l i false 0 := ⟨Nat.zero_le _, by simp⟩
theorem DInv.next {l : List DUse} {i : Int} {less : Bool} {k : Nat} (h : DInv l i less k) (hk : k < l.length) (hi : i.toNat < l.length) : DInv l i (less || decide (l[k].count < (l[i.toNat]).count)) (k + 1) := by
  refine ⟨hk, ?_⟩
  rw [Bool.or_eq_true, h.iff, decide_eq_true_iff]
  constructor
  · rintro (⟨j, a, b, c, d⟩ | g)
    · exact ⟨j, a, b, by omega, d⟩
    · exact ⟨k, hk, hi, by omega, g⟩
  · rintro ⟨j, a, b, c, d⟩
    by_cases e : j = k
    · subst e; exact .inr d
    · exact .inl ⟨j, a, b, by omega, d⟩
/-- From the end on, none that is least. -/
structure EInv (l : List DUse) (i : Int) : Prop where
  bd : 0 ≤ i ∧ i < l.length
  more : ∀ j (hj : j < l.length), i < (j : Int) → ∃ t ∈ l, t.count < l[j].count
theorem EInv.start {l : List DUse} (h : 0 < l.length) : EInv l ((l.length : Int) - 1) := ⟨by omega, fun j hj h2 => by omega⟩
theorem EInv.next {l : List DUse} {i : Int} {less : Bool} {k : Nat} (h : EInv l i) (hd : DInv l i less k) (hk : (l.length : Int) ≤ k) (hl : less = true) (hp : 0 < i) : EInv l (i - 1) := by
  obtain ⟨j, a, b, c, d⟩ := hd.iff.1 hl
  have hb := h.bd
  refine ⟨by omega, fun q hq h2 => ?_⟩
  by_cases e : (q : Int) = i
  · have : q = i.toNat := by omega
    subst this; exact ⟨_, List.getElem_mem a, d⟩
  · exact h.more q hq (by omega)
theorem EInv.last {l : List DUse} {i : Int} {less : Bool} {k : Nat} (h : EInv l i) (hd : DInv l i less k) (hk : (l.length : Int) ≤ k) (hl : less = false) (hi : i.toNat < l.length) : (l[i.toNat]).key = (l.getD (least l) default).key := by
  have hb := h.bd
  have e : i.toNat = least l := by
    refine least_last (by omega) hi (fun t ht => ?_) fun j hj h2 => h.more j hj (by omega)
    obtain ⟨j, hj, rfl⟩ := List.getElem_of_mem ht
    by_cases g : l[j].count < (l[i.toNat]).count
    · exact absurd (hd.iff.2 ⟨j, hj, hi, by omega, g⟩) (by simp [hl])
    · omega
  have hll : least l < l.length := least_lt (by omega)
  simp only [← e]; simp [List.getD, hi]
theorem EInv.zero {l : List DUse} {i : Int} (h : EInv l i) (h0 : i ≤ 0) (hi : 0 < l.length) : (l[0]).key = (l.getD (least l) default).key := by
  have hb := h.bd
  have hz : i = 0 := by omega
  subst hz
  have e : 0 = Lfu.least l := by
    refine least_last (by omega) hi (fun t ht => ?_) fun j hj h2 => h.more j hj (by omega)
    have hll := least_lt hi
    by_cases g : Lfu.least l = 0
    · have := least_min hi t ht
      simpa [g] using this
    · obtain ⟨t2, ht2, h3⟩ := h.more (Lfu.least l) hll (by omega)
      have := least_min hi t2 ht2; omega
  simp only [← e]; simp [List.getD, hi]
end Go.Sx.Lfu
