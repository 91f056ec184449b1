/- Hash functions: the plain functions. -/
import Derived.Test.YtnmbkopnopaigaaSx1M11
import Derived.Test.YtnmbkopnopaigaaSx31M2
import Derived.Test.YtnmbkopnopaigaaExPureM3
namespace Go.Sx.Hash
def mix (n : UInt64) : UInt64 :=
  ((((n ^^^ shrU n 30) * 13787848793156543929) ^^^ shrU ((n ^^^ shrU n 30) * 13787848793156543929) 27) * 10723151780598845931) ^^^ shrU ((((n ^^^ shrU n 30) * 13787848793156543929) ^^^ shrU ((n ^^^ shrU n 30) * 13787848793156543929) 27) * 10723151780598845931) 31
def rawTo (s : ByteArray) : Nat → UInt64
  | 0 => 14695981039346656037
  | i + 1 => (rawTo s i ^^^ (byteAt s i).toUInt64) * 1099511628211
def raw (s : ByteArray) : UInt64 := rawTo s s.size
def sum (s : ByteArray) : UInt64 := if 40 < s.size then 0 else raw s
def sumErr (s : ByteArray) : Int := if 40 < s.size then 2 else 0
def undoTo (n : UInt64) (by_ : Nat) : Nat → UInt64
  | 0 => n
  | k + 1 => n ^^^ shrU (undoTo n by_ k) by_
def undo (n : UInt64) (by_ : Int) : UInt64 := undoTo n by_.toNat (64 / by_.toNat)
def invTo (n : UInt64) : Nat → UInt64
  | 0 => n
  | k + 1 => invTo n k * (2 - n * invTo n k)
def inverse (n : UInt64) : UInt64 := invTo n 5
def unmix (n : UInt64) : UInt64 := undo (undo (undo n 31 * inverse 10723151780598845931) 27 * inverse 13787848793156543929) 30
def rawFold (n : UInt64) (most : Int) : Int := IntKind.i64.wrap ((shrU (shrU n 32 * toU most) 32).toNat : Int)
def reduce (n : UInt64) (most : Int) : Int := if most < 1 ∨ 1048576 < most then 0 else rawFold n most
def reduceErr (most : Int) : Int := if most < 1 ∨ 1048576 < most then 3 else 0
def salted (s : ByteArray) (salt : UInt64) : UInt64 := if sumErr s = 0 then mix (sum s ^^^ salt) else 0
theorem half_step (n : UInt64) (i : Nat) : shrU n i / 2 = shrU n (i + 1) := by
  apply UInt64.toNat_inj.1
  rw [UInt64.toNat_div, shrU_toNat, shrU_toNat]
  show n.toNat / 2 ^ min i 64 / 2 = _
  have h := n.toNat_lt
  rcases Nat.lt_or_ge i 64 with h' | h'
  · rw [Nat.min_eq_left (by omega), Nat.min_eq_left (by omega), Nat.div_div_eq_div_mul, Nat.pow_succ]
  · rw [Nat.min_eq_right h', Nat.min_eq_right (by omega), Nat.div_eq_of_lt h]
theorem shrU_zero (n : UInt64) : shrU n 0 = n := by apply UInt64.toNat_inj.1; rw [shrU_toNat]; simp
theorem times_step (a b : UInt64) : a * b = (a + a) * (b / 2) + a * (b % 2) := by
  have h : b = 2 * (b / 2) + b % 2 := by
    apply UInt64.toNat_inj.1
    rw [UInt64.toNat_add, UInt64.toNat_mul, UInt64.toNat_div, UInt64.toNat_mod]
    have := b.toNat_lt
    show b.toNat = (2 * (b.toNat / 2) % 2 ^ 64 + b.toNat % 2) % 2 ^ 64
    omega
  have e : a + a = a * 2 := by
    apply UInt64.toNat_inj.1
    rw [UInt64.toNat_add, UInt64.toNat_mul]
    show _ = a.toNat * 2 % 2 ^ 64
    omega
  rw [e, UInt64.mul_assoc, ← UInt64.mul_add, ← h]
theorem undoBound {b : Int} (h : 1 ≤ b ∧ b ≤ 64) : IntKind.i64.wrap (Int.tdiv 64 b) = ((64 / b.toNat : Nat) : Int) := by
  have e : Int.tdiv 64 b = ((64 / b.toNat : Nat) : Int) := by
    rw [Int.tdiv_eq_ediv_of_nonneg (by omega), Int.natCast_ediv]; congr 1; omega
  have hl : 64 / b.toNat ≤ 64 := Nat.div_le_self _ _
  rw [e]
  generalize 64 / b.toNat = m at *
  rw [wrap_i64 (by omega)]
theorem times_odd {a b s t : UInt64} (hI : s + a * b = t) (h : b % 2 = 1) : s + a + (a + a) * (b / 2) = t := by
  rw [← hI, times_step a b, h, UInt64.mul_one, UInt64.add_assoc, UInt64.add_comm a]
theorem times_even {a b s t : UInt64} (hI : s + a * b = t) (h : ¬ b % 2 = 1) : s + (a + a) * (b / 2) = t := by
  have h0 : b % 2 = 0 := by
    apply UInt64.toNat_inj.1
    have h1 : ¬ (b % 2).toNat = 1 := fun e => h (UInt64.toNat_inj.1 e)
    rw [UInt64.toNat_mod] at h1 ⊢
    have : (2 : UInt64).toNat = 2 := rfl
    rw [this] at h1 ⊢
    show _ = 0
    omega
  rw [← hI, times_step a b, h0, UInt64.mul_zero, UInt64.add_zero]
theorem half_less {b : UInt64} (h : 0 < b) : (b / 2).toNat < b.toNat := by
  have h1 := UInt64.lt_iff_toNat_lt.1 h
  rw [UInt64.toNat_div]
  exact Nat.div_lt_self h1 (by decide)
theorem times_end {a b s t : UInt64} (hI : s + a * b = t) (h : ¬ 0 < b) : s = t := by
  have h0 : b = 0 := by
    apply UInt64.toNat_inj.1
    have : ¬ (0 : UInt64).toNat < b.toNat := fun e => h (UInt64.lt_iff_toNat_lt.2 e)
    show _ = 0
    have e0 : (0 : UInt64).toNat = 0 := rfl
    omega
  rw [← hI, h0, UInt64.mul_zero, UInt64.add_zero]
end Go.Sx.Hash

/- Sketches: the plain functions. -/
namespace Go.Sx
structure DSketch where
  wide : Int
  counts : List (List Int)
deriving DecidableEq
/-- a sketch as it stands in a list of sketches -/
structure SkHdr where
  wide : Int
  a : Option Addr
  len : Nat
  cap : Nat
def tSkHdr : Ty SkHdr := ⟨2, fun h => [.int .i64 h.wide, .slice h.a h.len h.cap], fun _ => rfl⟩
namespace Sk
def zero : DSketch := ⟨0, []⟩
def sum (l : List Int) : Int := l.sum
def okN (n : Int) : Bool := decide (0 ≤ n) && decide (n ≤ 1099511627776)
def rowErr (l : List Int) (wide : Int) : Int := if (l.length : Int) ≠ wide then 1 else if l.any (fun n => !okN n) then 3 else 0
def rowsErr : List (List Int) → Int → Int
  | [], _ => 0
  | l :: r, wide => if rowErr l wide ≠ 0 then rowErr l wide else rowsErr r wide
def even (rows : List (List Int)) : Bool := !rows.any (fun l => sum l != sum (rows.getD 0 []))
def check (s : DSketch) : Int := if s.counts.length = 0 then 1 else if 6 < s.counts.length then 2 else if s.wide < 1 ∨ 64 < s.wide then 3 else
  if rowsErr s.counts s.wide ≠ 0 then rowsErr s.counts s.wide else if even s.counts then 0 else 4
def keyErr (s : DSketch) (key : ByteArray) : Int := if check s ≠ 0 then check s else Hash.sumErr key
def place (key : ByteArray) (row wide : Int) : Int := Hash.rawFold (Hash.salted key (toU row)) wide
def mapRow (f : Int → Int → Int → Int) (r : Nat) (l : List Int) : List Int := l.mapIdx fun i n => f r i n
def mapRows (f : Int → Int → Int → Int) (rows : List (List Int)) : List (List Int) := rows.mapIdx fun r l => mapRow f r l
def fitsRow (l : List Int) : Bool := l.all fun n => decide (n ≤ 1099511627776)
def fits (rows : List (List Int)) : Bool := rows.all fitsRow
def mapOk (f : Int → Int → Int → Int) (s : DSketch) : Bool := fits (mapRows f s.counts)
def mapS (f : Int → Int → Int → Int) (s : DSketch) : DSketch := if mapOk f s then ⟨s.wide, mapRows f s.counts⟩ else zero
/-- what Check says of a sketch that it finds right -/
structure Form (s : DSketch) : Prop where
  pos : 1 ≤ s.counts.length
  few : s.counts.length ≤ 6
  w1 : 1 ≤ s.wide
  w2 : s.wide ≤ 64
  len : ∀ l ∈ s.counts, (l.length : Int) = s.wide
  bd : ∀ l ∈ s.counts, ∀ n ∈ l, 0 ≤ n ∧ n ≤ 1099511627776
structure Ok (s : DSketch) : Prop extends Form s where
  same : ∀ l ∈ s.counts, sum l = sum (s.counts.getD 0 [])
def addF (key : ByteArray) (wide many : Int) (r i n : Int) : Int := if i = place key r wide then IntKind.i64.wrap (n + many) else n
def addErr (s : DSketch) (key : ByteArray) (many : Int) : Int := if keyErr s key ≠ 0 then keyErr s key else if many < 1 ∨ 1099511627776 < many then 3 else if mapOk (addF key s.wide many) s then 0 else 8
def add (s : DSketch) (key : ByteArray) (many : Int) : DSketch := if addErr s key many = 0 then mapS (addF key s.wide many) s else zero
def at_ (s : DSketch) (key : ByteArray) (r : Nat) : Int := (s.counts.getD r []).getD (place key r s.wide).toNat default
def leastTo (s : DSketch) (key : ByteArray) : Nat → Int
  | 0 => at_ s key 0
  | k + 1 => min (leastTo s key k) (at_ s key k)
def est (s : DSketch) (key : ByteArray) : Int := if keyErr s key = 0 then leastTo s key s.counts.length else 0
def mrgF (b : List (List Int)) (r i n : Int) : Int := IntKind.i64.wrap (n + (b.getD r.toNat []).getD i.toNat default)
def mrgErr (a b : DSketch) : Int := if check a ≠ 0 then check a else if check b ≠ 0 then check b else if a.wide ≠ b.wide ∨ a.counts.length ≠ b.counts.length then 7 else if mapOk (mrgF b.counts) a then 0 else 8
def merge (a b : DSketch) : DSketch := if mrgErr a b = 0 then mapS (mrgF b.counts) a else zero
def halfF (_r _i n : Int) : Int := n.tdiv 2
def halfErr (s : DSketch) : Int := if check s ≠ 0 then check s else if even (mapRows halfF s.counts) then 0 else 4
def halve (s : DSketch) : DSketch := if halfErr s = 0 then mapS halfF s else zero
def total (s : DSketch) : Int := if check s = 0 then sum (s.counts.getD 0 []) else 0
theorem sum_take {l : List Int} {k : Nat} (h : k < l.length) : sum (l.take (k + 1)) = sum (l.take k) + l.getD k default := by
  unfold sum
  rw [List.take_succ_eq_append_getElem h, List.sum_append]
  simp [List.getD_eq_getElem?_getD, h]
theorem sum_bd {l : List Int} (h : ∀ n ∈ l, 0 ≤ n ∧ n ≤ 1099511627776) : 0 ≤ sum l ∧ sum l ≤ 1099511627776 * (l.length : Int) := by
  unfold sum
  induction l with
  | nil => simp
  | cons x l ih =>
    have h1 := h x (by simp)
    have h2 := ih fun n hn => h n (by simp [hn])
    simp only [List.sum_cons, List.length_cons]
    omega
theorem getD_mem {α : Type} {l : List α} {i : Nat} {d : α} (h : i < l.length) : l.getD i d ∈ l := by
  rw [List.getD_eq_getElem?_getD, List.getElem?_eq_getElem h]; exact List.getElem_mem h
theorem okN_iff {n : Int} : okN n = true ↔ 0 ≤ n ∧ n ≤ 1099511627776 := by simp [okN]
theorem rowErr0 {l : List Int} {w : Int} : rowErr l w = 0 ↔ (l.length : Int) = w ∧ ∀ n ∈ l, 0 ≤ n ∧ n ≤ 1099511627776 := by
  unfold rowErr
  split
  · rename_i h; simp; intro h2; exact absurd h2 h
  · rename_i h
    split
    · rename_i h2
      refine ⟨fun h => (by cases h), fun h3 => ?_⟩
      obtain ⟨n, hn, h4⟩ := List.any_eq_true.1 h2
      have := okN_iff.2 (h3.2 n hn)
      simp [this] at h4
    · rename_i h2
      refine ⟨fun _ => ⟨by simpa using h, fun n hn => ?_⟩, fun _ => rfl⟩
      cases h5 : okN n with
      | true => exact okN_iff.1 h5
      | false => exact absurd (List.any_eq_true.2 ⟨n, hn, by simp [h5]⟩) h2
theorem rowsErr0 {rows : List (List Int)} {w : Int} : rowsErr rows w = 0 ↔ ∀ l ∈ rows, rowErr l w = 0 := by
  induction rows with
  | nil => simp [rowsErr]
  | cons l r ih =>
    unfold rowsErr
    by_cases h : rowErr l w = 0
    · rw [if_neg (by simpa using h), ih]; simp [h]
    · rw [if_pos h]; simp [h]
theorem even_iff {rows : List (List Int)} : even rows = true ↔ ∀ l ∈ rows, sum l = sum (rows.getD 0 []) := by
  unfold even
  rw [Bool.not_eq_true', List.any_eq_false]
  simp
theorem check_ok {s : DSketch} : check s = 0 ↔ Ok s := by
  unfold check
  constructor
  · intro h
    split at h; · cases h
    split at h; · cases h
    split at h; · cases h
    rename_i h1 h2 h3
    split at h
    · rename_i h4; exact absurd h h4
    rename_i h4
    split at h
    · rename_i h5
      have h4' : rowsErr s.counts s.wide = 0 := by simpa using h4
      have h6 := fun l hl => rowErr0.1 (rowsErr0.1 h4' l hl)
      exact ⟨⟨by omega, by omega, by omega, by omega, fun l hl => (h6 l hl).1, fun l hl => (h6 l hl).2⟩, even_iff.1 h5⟩
    · cases h
  · intro h
    have h1 := h.pos; have h2 := h.few; have h3 := h.w1; have h4 := h.w2
    rw [if_neg (by omega), if_neg (by omega), if_neg (by omega), if_neg (by simpa using rowsErr0.2 fun l hl => rowErr0.2 ⟨h.len l hl, h.bd l hl⟩), if_pos (even_iff.2 h.same)]
end Sk
end Go.Sx

/- Hash functions: the plain laws. -/
namespace Go.Sx.Hash
theorem sum_long {s : ByteArray} (salt : UInt64) (h : 40 < s.size) : sum s = 0 ∧ sumErr s = 2 ∧ salted s salt = 0 := by
  have e : sumErr s = 2 := if_pos h
  exact ⟨if_pos h, e, by unfold salted; rw [e]; rfl⟩
theorem sum_short {s : ByteArray} (salt : UInt64) (h : ¬ 40 < s.size) : sum s = raw s ∧ sumErr s = 0 ∧ salted s salt = mix (raw s ^^^ salt) := by
  have e : sumErr s = 0 := if_neg h
  have e2 : sum s = raw s := if_neg h
  exact ⟨e2, e, by unfold salted; rw [e, e2]; rfl⟩
theorem reduce_bad (n : UInt64) {most : Int} (h : most < 1 ∨ 1048576 < most) : reduce n most = 0 ∧ reduceErr most = 3 := ⟨if_pos h, if_pos h⟩
theorem reduce_ok (n : UInt64) {most : Int} (h : 1 ≤ most ∧ most ≤ 1048576) : reduce n most = rawFold n most ∧ reduceErr most = 0 := ⟨if_neg (by omega), if_neg (by omega)⟩
theorem sum_cases (s : ByteArray) (salt : UInt64) : (40 < s.size ∧ sum s = 0 ∧ sumErr s = 2 ∧ salted s salt = 0) ∨ (¬ 40 < s.size ∧ sum s = raw s ∧ sumErr s = 0 ∧ salted s salt = mix (raw s ^^^ salt)) := by
  by_cases h : 40 < s.size
  · exact Or.inl ⟨h, sum_long salt h⟩
  · exact Or.inr ⟨h, sum_short salt h⟩
theorem reduce_cases (n : UInt64) (most : Int) : ((most < 1 ∨ 1048576 < most) ∧ reduce n most = 0 ∧ reduceErr most = 3) ∨ ((1 ≤ most ∧ most ≤ 1048576) ∧ reduce n most = rawFold n most ∧ reduceErr most = 0) := by
  by_cases h : most < 1 ∨ 1048576 < most
  · exact Or.inl ⟨h, reduce_bad n h⟩
  · exact Or.inr ⟨by omega, reduce_ok n (by omega)⟩
theorem reduceOk {most : Int} (h : reduceErr most = 0) : 1 ≤ most ∧ most ≤ 1048576 := by
  unfold reduceErr at h; split at h
  · cases h
  · omega

/-! ### Undoing a mix -/
theorem shrU_xor (a b : UInt64) (k : Nat) : shrU (a ^^^ b) k = shrU a k ^^^ shrU b k := by
  apply UInt64.toNat_inj.1
  rw [shrU_toNat, UInt64.toNat_xor, UInt64.toNat_xor, shrU_toNat, shrU_toNat, ← Nat.shiftRight_eq_div_pow, ← Nat.shiftRight_eq_div_pow, ← Nat.shiftRight_eq_div_pow, Nat.shiftRight_xor_distrib]
theorem shrU_big (a : UInt64) {k : Nat} (h : 64 ≤ k) : shrU a k = 0 := by
  apply UInt64.toNat_inj.1
  rw [shrU_toNat, Nat.min_eq_right h, Nat.div_eq_of_lt a.toNat_lt]; rfl
theorem shrU_shrU (a : UInt64) (i j : Nat) : shrU (shrU a i) j = shrU a (i + j) := by
  rcases Nat.lt_or_ge (i + j) 64 with h | h
  · apply UInt64.toNat_inj.1
    rw [shrU_toNat, shrU_toNat, shrU_toNat, Nat.min_eq_left (by omega), Nat.min_eq_left (by omega), Nat.min_eq_left (by omega), Nat.div_div_eq_div_mul, ← Nat.pow_add]
  · rw [shrU_big a h]
    apply UInt64.toNat_inj.1
    rw [shrU_toNat, shrU_toNat]
    show _ = 0
    rw [Nat.div_div_eq_div_mul, ← Nat.pow_add]
    apply Nat.div_eq_of_lt
    exact Nat.lt_of_lt_of_le a.toNat_lt (Nat.pow_le_pow_right (by decide) (by omega))
def fwd (k : Nat) (x : UInt64) : UInt64 := x ^^^ shrU x k
def back (k : Nat) (n : UInt64) : UInt64 := n ^^^ shrU (n ^^^ shrU n k) k
theorem back_fwd (k : Nat) (h : 64 ≤ 3 * k) (x : UInt64) : back k (fwd k x) = x := by
  unfold back fwd
  rw [shrU_xor, shrU_xor, shrU_xor, shrU_shrU, shrU_shrU, shrU_big x (k := k + k + k) (by omega)]
  rw [UInt64.xor_zero]
  generalize shrU x k = b
  generalize shrU x (k + k) = c
  rw [UInt64.xor_assoc x b, show (b ^^^ (b ^^^ c ^^^ c)) = 0 by rw [UInt64.xor_assoc b c c, UInt64.xor_self, UInt64.xor_zero, UInt64.xor_self], UInt64.xor_zero]
theorem fwd_back (k : Nat) (h : 64 ≤ 3 * k) (n : UInt64) : fwd k (back k n) = n := by
  unfold back fwd
  rw [shrU_xor, shrU_shrU, shrU_xor, shrU_xor, shrU_shrU, shrU_shrU, shrU_big n (k := k + k + k) (by omega)]
  rw [UInt64.xor_zero]
  generalize shrU n k = b
  generalize shrU n (k + k) = c
  rw [UInt64.xor_assoc n, UInt64.xor_self, UInt64.xor_zero]
theorem undo_back (n : UInt64) (k : Int) (h : k = 31 ∨ k = 27 ∨ k = 30) : undo n k = back k.toNat n := by
  rcases h with rfl | rfl | rfl <;> rfl
theorem one_inv : (13787848793156543929 : UInt64) * inverse 13787848793156543929 = 1 := by decide +kernel
theorem two_inv : (10723151780598845931 : UInt64) * inverse 10723151780598845931 = 1 := by decide +kernel
theorem mix_eq (n : UInt64) : mix n = fwd 31 (fwd 27 (fwd 30 n * 13787848793156543929) * 10723151780598845931) := rfl
theorem unmix_eq (n : UInt64) : unmix n = back 30 (back 27 (back 31 n * inverse 10723151780598845931) * inverse 13787848793156543929) := rfl
theorem unmix_mix (n : UInt64) : unmix (mix n) = n := by
  rw [mix_eq, unmix_eq, back_fwd 31 (by decide), UInt64.mul_assoc, two_inv, UInt64.mul_one, back_fwd 27 (by decide), UInt64.mul_assoc, one_inv, UInt64.mul_one, back_fwd 30 (by decide)]
theorem mix_unmix (n : UInt64) : mix (unmix n) = n := by
  rw [mix_eq, unmix_eq, fwd_back 30 (by decide), UInt64.mul_assoc, UInt64.mul_comm (inverse 13787848793156543929), one_inv, UInt64.mul_one, fwd_back 27 (by decide), UInt64.mul_assoc, UInt64.mul_comm (inverse 10723151780598845931), two_inv, UInt64.mul_one, fwd_back 31 (by decide)]
theorem mix_inj (a b : UInt64) : (mix a == mix b) = (a == b) := by
  rw [Bool.eq_iff_iff, beq_iff_eq, beq_iff_eq]
  exact ⟨fun h => by rw [← unmix_mix a, ← unmix_mix b, h], fun h => by rw [h]⟩
end Go.Sx.Hash

/- Hash functions: reducing, and sums of texts with one end. -/
namespace Go.Sx.Hash
theorem rawFold_eq (n : UInt64) (m : Nat) (h : m ≤ 2097152) : rawFold n (m : Int) = ((n.toNat / 4294967296 * m / 4294967296 : Nat) : Int) := by
  have hn := n.toNat_lt
  have e1 : (shrU n 32).toNat = n.toNat / 4294967296 := by rw [shrU_toNat]; rfl
  have e2 : (toU (m : Int)).toNat = m := by have := toU_toNat (m : Int); omega
  have hb : n.toNat / 4294967296 < 4294967296 := by omega
  have hp : n.toNat / 4294967296 * m ≤ 4294967295 * 2097152 := Nat.mul_le_mul (by omega) h
  unfold rawFold
  rw [shrU_toNat, UInt64.toNat_mul, e1, e2]
  show IntKind.i64.wrap ((n.toNat / 4294967296 * m % 18446744073709551616 / 4294967296 : Nat) : Int) = _
  generalize hq : n.toNat / 4294967296 * m = q at *
  rw [Nat.mod_eq_of_lt (by omega), wrap_i64 (by omega)]
theorem reduce_at (n : UInt64) {most : Int} (h : 1 ≤ most ∧ most ≤ 1048576) : reduce n most = ((n.toNat / 4294967296 * most.toNat / 4294967296 : Nat) : Int) := by
  obtain ⟨m, rfl⟩ : ∃ m : Nat, most = m := ⟨most.toNat, by omega⟩
  rw [(reduce_ok n h).1, rawFold_eq n m (by omega), Int.toNat_natCast]
theorem reduce_law (a b : UInt64) (most : Int) (h : 1 ≤ most ∧ most ≤ 1048576) :
    0 ≤ reduce a most ∧ reduce a most < most ∧ (a ≤ b → reduce a most ≤ reduce b most) ∧ (reduceErr (2 * most) = 0 → (reduce a (2 * most)).tdiv 2 = reduce a most) ∧ reduce 0 most = 0 ∧ reduce 18446744073709551615 most = most - 1 := by
  have ha := a.toNat_lt
  have hb : a.toNat / 4294967296 < 4294967296 := by omega
  rw [reduce_at a h, reduce_at b h, reduce_at 0 h, reduce_at 18446744073709551615 h]
  obtain ⟨m, rfl⟩ : ∃ m : Nat, most = m := ⟨most.toNat, by omega⟩
  rw [Int.toNat_natCast]
  refine ⟨by omega, ?_, fun hab => ?_, fun h2 => ?_, ?_, ?_⟩
  · have : a.toNat / 4294967296 * m / 4294967296 < m := by
      apply Nat.div_lt_of_lt_mul
      exact Nat.mul_lt_mul_of_pos_right hb (by omega)
    omega
  · have := UInt64.le_iff_toNat_le.1 hab
    have : a.toNat / 4294967296 * m / 4294967296 ≤ b.toNat / 4294967296 * m / 4294967296 := Nat.div_le_div_right (Nat.mul_le_mul_right _ (Nat.div_le_div_right this))
    omega
  · rw [reduce_at a (reduceOk h2), show (2 * (m : Int)).toNat = 2 * m by omega]
    generalize a.toNat / 4294967296 = q at *
    rw [show q * (2 * m) = 2 * (q * m) by rw [Nat.mul_left_comm]]
    generalize q * m = r
    rw [Int.tdiv_eq_ediv_of_nonneg (by omega)]
    omega
  · show ((0 / 4294967296 * m / 4294967296 : Nat) : Int) = 0
    simp
  · show ((18446744073709551615 / 4294967296 * m / 4294967296 : Nat) : Int) = _
    omega
theorem reduce_zero {most : Int} (h : reduceErr most ≠ 0 ∨ reduceErr most ≠ 0) (n : UInt64) : reduce n most = 0 := by
  rcases reduce_cases n most with ⟨c, r1, r2⟩ | ⟨c, r1, r2⟩
  · exact r1
  · omega
theorem reduce_bool (a b : UInt64) {most : Int} (h : 1 ≤ most ∧ most ≤ 1048576) (h0 : reduceErr most = 0) :
    (decide (0 ≤ reduce a most) && decide (reduce a most < most) && (decide (b < a) || decide (reduce a most ≤ reduce b most)) && (reduceErr (IntKind.i64.wrap (2 * most)) != 0 || IntKind.i64.wrap ((reduce a (IntKind.i64.wrap (2 * most))).tdiv 2) == reduce a most) &&
      reduceErr most == 0 && reduce 0 most == 0 && reduceErr most == 0 && reduce 18446744073709551615 most == most - 1) = true := by
  obtain ⟨r1, r2, r3, r4, r5, r6⟩ := reduce_law a b most h
  rw [wrap_i64 (show -9223372036854775808 ≤ 2 * most ∧ 2 * most ≤ 9223372036854775807 by omega)]
  have e1 : (decide (b < a) || decide (reduce a most ≤ reduce b most)) = true := by
    by_cases hab : a ≤ b
    · simp [r3 hab]
    · simp [UInt64.not_le.1 hab]
  have e2 : (reduceErr (2 * most) != 0 || IntKind.i64.wrap ((reduce a (2 * most)).tdiv 2) == reduce a most) = true := by
    by_cases hg : reduceErr (2 * most) = 0
    · rw [r4 hg, wrap_i64 (by omega)]; simp
    · simp [hg]
  rw [e1, e2, h0, r5, r6]
  simp [r1, r2]
/-! ### Texts with one end -/
theorem step_inj {x y c : UInt64} (h : (x ^^^ c) * 1099511628211 = (y ^^^ c) * 1099511628211) : x = y := by
  have e : (1099511628211 : UInt64) * inverse 1099511628211 = 1 := by decide +kernel
  have h2 := congrArg (· * inverse 1099511628211) h
  simp only [UInt64.mul_assoc, e, UInt64.mul_one] at h2
  have h3 := congrArg (· ^^^ c) h2
  simpa only [UInt64.xor_assoc, UInt64.xor_self, UInt64.xor_zero] using h3
theorem byteAt_append_left (s t : ByteArray) {i : Nat} (h : i < s.size) : byteAt (s ++ t) i = byteAt s i := by
  unfold byteAt; rw [ByteArray.data_append]
  have : i < s.data.size := h
  simp only [Array.getD, Array.size_append, dif_pos this, dif_pos (show i < s.data.size + t.data.size by omega), Array.getInternal_eq_getElem, Array.getElem_append_left this]
theorem byteAt_append_right (s t : ByteArray) (i : Nat) : byteAt (s ++ t) (s.size + i) = byteAt t i := by
  unfold byteAt; rw [ByteArray.data_append]
  have : s.size = s.data.size := rfl
  rw [this]
  by_cases h : i < t.data.size
  · simp [Array.getD, h, Array.getElem_append_right]
  · simp [Array.getD, h]
theorem rawTo_left (s t : ByteArray) : ∀ i, i ≤ s.size → rawTo (s ++ t) i = rawTo s i
  | 0, _ => rfl
  | i + 1, h => by rw [rawTo, rawTo, rawTo_left s t i (by omega), byteAt_append_left s t (by omega)]
theorem raw_iff (s t m : ByteArray) : ∀ i, rawTo (s ++ m) (s.size + i) = rawTo (t ++ m) (t.size + i) ↔ raw s = raw t
  | 0 => by rw [Nat.add_zero, Nat.add_zero, rawTo_left s m _ (Nat.le_refl _), rawTo_left t m _ (Nat.le_refl _)]; rfl
  | i + 1 => by
    rw [← raw_iff s t m i]
    show (rawTo (s ++ m) (s.size + i) ^^^ (byteAt (s ++ m) (s.size + i)).toUInt64) * 1099511628211 = (rawTo (t ++ m) (t.size + i) ^^^ (byteAt (t ++ m) (t.size + i)).toUInt64) * 1099511628211 ↔ _
    rw [byteAt_append_right, byteAt_append_right]
    exact ⟨step_inj, fun h => by rw [h]⟩
theorem size_append (s t : ByteArray) : (s ++ t).size = s.size + t.size := ByteArray.size_append
theorem raw_append_iff (s t m : ByteArray) : raw (s ++ m) = raw (t ++ m) ↔ raw s = raw t := by
  unfold raw; rw [size_append, size_append]; exact raw_iff s t m m.size
theorem raw_one {s t : ByteArray} (hs : s.size = 1) (ht : t.size = 1) (h : raw s = raw t) : s = t := by
  unfold raw at h; rw [hs, ht] at h
  have h1 : (14695981039346656037 ^^^ (byteAt s 0).toUInt64) * 1099511628211 = (14695981039346656037 ^^^ (byteAt t 0).toUInt64) * (1099511628211 : UInt64) := h
  rw [UInt64.xor_comm _ (byteAt s 0).toUInt64, UInt64.xor_comm _ (byteAt t 0).toUInt64] at h1
  have h2 := step_inj h1
  have h3 : byteAt s 0 = byteAt t 0 := by
    apply UInt8.toNat_inj.1
    have := congrArg UInt64.toNat h2
    simpa using this
  apply ByteArray.ext
  have hs' : s.data.size = 1 := hs
  have ht' : t.data.size = 1 := ht
  apply Array.ext
  · rw [hs', ht']
  · intro i hi hj
    obtain rfl : i = 0 := by omega
    unfold byteAt at h3
    simpa [Array.getD, hs', ht'] using h3
theorem sum_of {s : ByteArray} (h : sumErr s = 0) : sum s = raw s ∧ s.size ≤ 40 := by
  unfold sumErr at h; split at h
  · cases h
  · exact ⟨if_neg (by assumption), by omega⟩
theorem suffix_law {s t m : ByteArray} (h1 : sumErr s = 0) (h2 : sumErr t = 0) (h3 : sumErr (s ++ m) = 0) (h4 : sumErr (t ++ m) = 0) :
    (sum s == sum t) = (sum (s ++ m) == sum (t ++ m)) ∧ (s.size = 1 → t.size = 1 → s ≠ t → sum s ≠ sum t) := by
  rw [(sum_of h1).1, (sum_of h2).1, (sum_of h3).1, (sum_of h4).1]
  refine ⟨?_, fun a b c d => c (raw_one a b d)⟩
  rw [Bool.eq_iff_iff, beq_iff_eq, beq_iff_eq, raw_append_iff]
theorem suffix_bool {s t m : ByteArray} (h1 : sumErr s = 0) (h2 : sumErr t = 0) (h3 : sumErr (s ++ m) = 0) (h4 : sumErr (t ++ m) = 0) :
    ((sum s == sum t) == (sum (s ++ m) == sum (t ++ m)) && ((s.size : Int) != 1 || (t.size : Int) != 1 || decide (s = t) || sum s != sum t)) = true := by
  obtain ⟨l1, l2⟩ := suffix_law h1 h2 h3 h4
  rw [l1]
  by_cases a : s.size = 1
  · by_cases b : t.size = 1
    · by_cases c : s = t
      · simp [c]
      · simp [l2 a b c, bne]
    · have e : ((t.size : Int) != 1) = true := by rw [bne_iff_ne]; omega
      rw [e]; simp
  · have e : ((s.size : Int) != 1) = true := by rw [bne_iff_ne]; omega
    rw [e]; simp
end Go.Sx.Hash

/- Sketches: what the walks ask. -/
namespace Go.Sx.Sk
def Vals (rows : List (List Int)) : Prop := ∀ l ∈ rows, l.length ≤ 64 ∧ ∀ n ∈ l, 0 ≤ n ∧ n ≤ 1099511627776
theorem Form.vals {s : DSketch} (h : Form s) : Vals s.counts := fun l hl => ⟨by have := h.len l hl; have := h.w2; omega, h.bd l hl⟩
theorem take_bd {l : List Int} (h : ∀ n ∈ l, 0 ≤ n ∧ n ≤ 1099511627776) (k : Nat) : 0 ≤ sum (l.take k) ∧ sum (l.take k) ≤ 1099511627776 * (k : Int) := by
  have h1 := sum_bd (l := l.take k) fun n hn => h n (List.mem_of_mem_take hn)
  have h2 : (l.take k).length ≤ k := by simp; omega
  omega
theorem el_bd {l : List Int} (h : ∀ n ∈ l, 0 ≤ n ∧ n ≤ 1099511627776) {k : Nat} (hk : k < l.length) : 0 ≤ l.getD k default ∧ l.getD k default ≤ 1099511627776 := h _ (getD_mem hk)
theorem row_mem {rows : List (List Int)} {k : Nat} (h : k < rows.length) : rows.getD k [] ∈ rows := getD_mem h
theorem Vals.row {rows : List (List Int)} (h : Vals rows) {k : Nat} (hk : k < rows.length) : (rows.getD k []).length ≤ 64 ∧ ∀ n ∈ rows.getD k [], 0 ≤ n ∧ n ≤ 1099511627776 := h _ (row_mem hk)
theorem take_all {l : List Int} {k : Nat} (h : l.length ≤ k) : sum (l.take k) = sum l := by rw [List.take_of_length_le h]
/-! ### row -/
theorem row1 {l : List Int} {w : Int} (h : (l.length : Int) ≠ w) : rowErr l w = 1 := if_pos h
theorem row2 {l : List Int} {w : Int} (h : (l.length : Int) = w) (h2 : l.any (fun n => !okN n) = true) : rowErr l w = 3 := by rw [rowErr, if_neg (by simpa using h), if_pos h2]
theorem row3 {l : List Int} {w : Int} (h : (l.length : Int) = w) (h2 : l.any (fun n => !okN n) = false) : rowErr l w = 0 := by rw [rowErr, if_neg (by simpa using h), if_neg (by simp [h2])]
/-! ### Check -/
theorem rows_at {rows : List (List Int)} {w : Int} : ∀ {k : Nat}, k < rows.length → (∀ i, i < k → rowErr (rows.getD i []) w = 0) → rowErr (rows.getD k []) w ≠ 0 → rowsErr rows w = rowErr (rows.getD k []) w := by
  induction rows with
  | nil => intro k h; exact absurd h (Nat.not_lt_zero _)
  | cons l r ih =>
    intro k h h1 h2
    cases k with
    | zero => simp only [List.getD_cons_zero] at h2 ⊢; unfold rowsErr; rw [if_pos h2]
    | succ k =>
      have h0 := h1 0 (by omega)
      simp only [List.getD_cons_zero] at h0
      unfold rowsErr
      rw [if_neg (by simpa using h0)]
      simp only [List.getD_cons_succ] at h2 ⊢
      exact ih (by simpa using h) (fun i hi => by simpa using h1 (i + 1) (by omega)) h2
theorem rows_done {rows : List (List Int)} {w : Int} {k : Nat} (h : rows.length ≤ k) (h1 : ∀ i, i < k → rowErr (rows.getD i []) w = 0) : rowsErr rows w = 0 :=
  rowsErr0.2 fun l hl => by
    obtain ⟨i, hi, rfl⟩ := List.getElem_of_mem hl
    have := h1 i (by omega)
    rwa [List.getD_eq_getElem?_getD, List.getElem?_eq_getElem hi] at this
theorem ck1 {s : DSketch} (h : (s.counts.length : Int) = 0) : check s = 1 := if_pos (by omega)
theorem ck2 {s : DSketch} (h : 6 < (s.counts.length : Int)) : check s = 2 := by rw [check, if_neg (by omega), if_pos (by omega)]
theorem ck3 {s : DSketch} (h : (s.counts.length : Int) ≠ 0) (h1 : (s.counts.length : Int) ≤ 6) (h2 : s.wide < 1 ∨ 64 < s.wide) : check s = 3 := by rw [check, if_neg (by omega), if_neg (by omega), if_pos h2]
theorem ck4 {s : DSketch} {k : Nat} (h : (s.counts.length : Int) ≠ 0) (h1 : (s.counts.length : Int) ≤ 6) (h2 : 1 ≤ s.wide ∧ s.wide ≤ 64) (hk : k < s.counts.length) (h3 : ∀ i, i < k → rowErr (s.counts.getD i []) s.wide = 0) (h4 : rowErr (s.counts.getD k []) s.wide ≠ 0) : check s = rowErr (s.counts.getD k []) s.wide := by
  have h5 := rows_at hk h3 h4
  rw [check, if_neg (by omega), if_neg (by omega), if_neg (by omega), if_pos (by rw [h5]; exact h4), h5]
theorem ck5 {s : DSketch} (h : (s.counts.length : Int) ≠ 0) (h1 : (s.counts.length : Int) ≤ 6) (h2 : 1 ≤ s.wide ∧ s.wide ≤ 64) {k : Nat} (hk : s.counts.length ≤ k) (h3 : ∀ i, i < k → rowErr (s.counts.getD i []) s.wide = 0) (h4 : even s.counts = false) : check s = 4 := by
  have h5 := rows_done hk h3
  rw [check, if_neg (by omega), if_neg (by omega), if_neg (by omega), if_neg (by simpa using h5), if_neg (by simp [h4])]
theorem ck6 {s : DSketch} (h : (s.counts.length : Int) ≠ 0) (h1 : (s.counts.length : Int) ≤ 6) (h2 : 1 ≤ s.wide ∧ s.wide ≤ 64) {k : Nat} (hk : s.counts.length ≤ k) (h3 : ∀ i, i < k → rowErr (s.counts.getD i []) s.wide = 0) (h4 : even s.counts = true) : check s = 0 := by
  have h5 := rows_done hk h3
  rw [check, if_neg (by omega), if_neg (by omega), if_neg (by omega), if_neg (by simpa using h5), if_pos h4]
theorem form_of {s : DSketch} (h : (s.counts.length : Int) ≠ 0) (h1 : (s.counts.length : Int) ≤ 6) (h2 : 1 ≤ s.wide ∧ s.wide ≤ 64) {k : Nat} (hk : s.counts.length ≤ k) (h3 : ∀ i, i < k → rowErr (s.counts.getD i []) s.wide = 0) : Form s := by
  have h6 := fun l hl => rowErr0.1 (rowsErr0.1 (rows_done hk h3) l hl)
  exact ⟨by omega, by omega, h2.1, h2.2, fun l hl => (h6 l hl).1, fun l hl => (h6 l hl).2⟩
/-! ### place -/
theorem place_bd (key : ByteArray) (row : Int) {wide : Int} (h : 1 ≤ wide ∧ wide ≤ 64) : 0 ≤ place key row wide ∧ place key row wide < wide := by
  obtain ⟨m, rfl⟩ : ∃ m : Nat, wide = m := ⟨wide.toNat, by omega⟩
  unfold place
  rw [Hash.rawFold_eq _ m (by omega)]
  have h1 := (Hash.salted key (toU row)).toNat_lt
  generalize (Hash.salted key (toU row)).toNat = z at *
  have h2 : z / 4294967296 < 4294967296 := by omega
  have h3 : z / 4294967296 * m / 4294967296 < m := by
    rw [Nat.div_lt_iff_lt_mul (by decide), Nat.mul_comm m]
    exact Nat.mul_lt_mul_of_pos_right h2 (by omega)
  omega
/-! ### mapped -/
theorem mapRow_len (f : Int → Int → Int → Int) (r : Nat) (l : List Int) : (mapRow f r l).length = l.length := by simp [mapRow]
theorem mapRows_len (f : Int → Int → Int → Int) (rows : List (List Int)) : (mapRows f rows).length = rows.length := by simp [mapRows]
theorem mapRows_get (f : Int → Int → Int → Int) {rows : List (List Int)} {k : Nat} (h : k < rows.length) : (mapRows f rows).getD k [] = mapRow f k (rows.getD k []) := by
  simp [mapRows, List.getD_eq_getElem?_getD, h]
theorem mapRow_get (f : Int → Int → Int → Int) {l : List Int} {r i : Nat} (h : i < l.length) : (mapRow f r l).getD i default = f r i (l.getD i default) := by
  simp [mapRow, List.getD_eq_getElem?_getD, h]
/-- inner loop: the first i numbers are done -/
def MI (f : Int → Int → Int → Int) (r : Nat) (l ls : List Int) (i : Nat) : Prop := i ≤ l.length ∧ ls.length = l.length ∧ (∀ j, j < i → ls.getD j default = f r j (l.getD j default)) ∧ ∀ j, i ≤ j → ls.getD j default = l.getD j default
theorem MI.start (f : Int → Int → Int → Int) (r : Nat) (l : List Int) : MI f r l l 0 := ⟨Nat.zero_le _, rfl, fun j h => absurd h (Nat.not_lt_zero j), fun _ _ => rfl⟩
theorem getD_set {l : List Int} {i j : Nat} {z : Int} (h : i < l.length) : (l.set i z).getD j default = if j = i then z else l.getD j default := by
  simp only [List.getD_eq_getElem?_getD, List.getElem?_set]
  by_cases e : i = j
  · subst e; simp [h]
  · rw [if_neg e, if_neg (Ne.symm e)]
theorem MI.next {f : Int → Int → Int → Int} {r : Nat} {l ls : List Int} {i : Nat} (hI : MI f r l ls i) (h : i < l.length) {z : Int} (hz : z = f r i (l.getD i default)) : MI f r l (ls.set i z) (i + 1) := by
  obtain ⟨h1, h2, h3, h4⟩ := hI
  refine ⟨h, by simpa using h2, fun j hj => ?_, fun j hj => ?_⟩
  · rw [getD_set (by omega)]
    by_cases e : j = i
    · subst e; simp [hz]
    · rw [if_neg e]; exact h3 j (by omega)
  · rw [getD_set (by omega), if_neg (by omega)]; exact h4 j (by omega)
theorem ext_getD {l m : List Int} (h : l.length = m.length) (h2 : ∀ j, j < l.length → l.getD j default = m.getD j default) : l = m :=
  List.ext_getElem h fun i h1 h3 => by
    have := h2 i h1
    rwa [List.getD_eq_getElem?_getD, List.getD_eq_getElem?_getD, List.getElem?_eq_getElem h1, List.getElem?_eq_getElem h3] at this
theorem MI.done {f : Int → Int → Int → Int} {r : Nat} {l ls : List Int} {i : Nat} (hI : MI f r l ls i) (h : l.length ≤ i) : ls = mapRow f r l := by
  obtain ⟨h1, h2, h3, h4⟩ := hI
  refine ext_getD (by rw [mapRow_len, h2]) fun j hj => ?_
  rw [h3 j (by omega), mapRow_get f (by omega)]
/-- outer loop -/
def MO (f : Int → Int → Int → Int) (s o : DSketch) (k : Nat) : Prop := k ≤ s.counts.length ∧ o = ⟨s.wide, (mapRows f s.counts).take k⟩ ∧ fits ((mapRows f s.counts).take k) = true
theorem MO.start (f : Int → Int → Int → Int) (s : DSketch) : MO f s ⟨s.wide, []⟩ 0 := ⟨Nat.zero_le _, by simp, rfl⟩
theorem MO.next {f : Int → Int → Int → Int} {s o : DSketch} {k : Nat} (hI : MO f s o k) (h : k < s.counts.length) {ls : List Int} (hl : ls = mapRow f k (s.counts.getD k [])) (hf : fitsRow ls = true) : MO f s ⟨o.wide, o.counts ++ [ls]⟩ (k + 1) := by
  obtain ⟨h1, rfl, h3⟩ := hI
  have e : (mapRows f s.counts).take (k + 1) = (mapRows f s.counts).take k ++ [ls] := by
    rw [List.take_succ_eq_append_getElem (by rw [mapRows_len]; exact h), hl, ← mapRows_get f h, List.getD_eq_getElem?_getD, List.getElem?_eq_getElem (by rw [mapRows_len]; exact h)]; rfl
  refine ⟨h, by rw [e], ?_⟩
  rw [e, fits, List.all_append]; rw [fits] at h3; simp [h3, hf]
theorem MO.done {f : Int → Int → Int → Int} {s o : DSketch} {k : Nat} (hI : MO f s o k) (h : s.counts.length ≤ k) : mapS f s = o ∧ mapOk f s = true := by
  obtain ⟨h1, rfl, h3⟩ := hI
  have e : (mapRows f s.counts).take k = mapRows f s.counts := List.take_of_length_le (by rw [mapRows_len]; exact h)
  rw [e] at h3 ⊢
  exact ⟨if_pos h3, h3⟩
theorem MO.bad {f : Int → Int → Int → Int} {s o : DSketch} {k : Nat} (hI : MO f s o k) (h : k < s.counts.length) {ls : List Int} (hl : ls = mapRow f k (s.counts.getD k [])) (hf : fitsRow ls = false) : mapS f s = zero ∧ mapOk f s = false := by
  have h1 : mapOk f s = false := by
    cases h2 : mapOk f s with
    | false => rfl
    | true =>
      have h3 := List.all_eq_true.1 h2 (mapRow f k (s.counts.getD k [])) (by rw [← mapRows_get f h]; exact row_mem (by rw [mapRows_len]; exact h))
      rw [← hl, hf] at h3; cases h3
  exact ⟨if_neg (by simp [h1]), h1⟩
/-- the greatest of a row -/
def maxTo (l : List Int) : Nat → Int
  | 0 => l.getD 0 default
  | k + 1 => max (maxTo l k) (l.getD k default)
theorem maxTo_iff {l : List Int} (h : 0 < l.length) : ∀ k, k ≤ l.length → 1 ≤ k → (maxTo l k ≤ 1099511627776 ↔ ∀ j, j < k → l.getD j default ≤ 1099511627776)
  | 0, _, h1 => by omega
  | 1, _, _ => by
    show max (l.getD 0 default) (l.getD 0 default) ≤ _ ↔ _
    refine ⟨fun h j hj => ?_, fun h => ?_⟩
    · have : j = 0 := by omega
      subst this; omega
    · have := h 0 (by omega); omega
  | k + 2, h2, _ => by
    have ih := maxTo_iff h (k + 1) (by omega) (by omega)
    show max (maxTo l (k + 1)) (l.getD (k + 1) default) ≤ _ ↔ _
    refine ⟨fun h j hj => ?_, fun h => ?_⟩
    · by_cases e : j = k + 1
      · subst e; omega
      · exact ih.1 (by omega) j (by omega)
    · have h3 := ih.2 fun j hj => h j (by omega)
      have h4 := h (k + 1) (by omega)
      omega
def maxL (l : List Int) : Int := maxTo l l.length
theorem fits_max {l : List Int} (h : 0 < l.length) : fitsRow l = decide (maxL l ≤ 1099511627776) := by
  rw [Bool.eq_iff_iff, decide_eq_true_eq, maxL, maxTo_iff h _ (Nat.le_refl _) h, fitsRow, List.all_eq_true]
  refine ⟨fun h j hj => by simpa using h _ (getD_mem hj), fun h n hn => ?_⟩
  obtain ⟨i, hi, rfl⟩ := List.getElem_of_mem hn
  have := h i hi
  rw [List.getD_eq_getElem?_getD, List.getElem?_eq_getElem hi] at this
  simpa using this
/-! ### steps of the walks -/
theorem getD_of {α : Type} {l : List α} {i : Nat} {d : α} (h : i < l.length) : l.getD i d = l[i] := by rw [List.getD_eq_getElem?_getD, List.getElem?_eq_getElem h]; rfl
theorem idx_found {f : List Int → Bool} {l : List (List Int)} {k : Nat} (h : k < l.length) (h1 : f (l.getD k []) = true) (h2 : ∀ j, j < k → f (l.getD j []) = false) : (k : Int) = idxF f l :=
  idxF_found h (by rwa [getD_of h] at h1) fun j hj h3 => by have := h2 j h3; rwa [getD_of hj] at this
theorem idx_none {f : List Int → Bool} {l : List (List Int)} {k : Nat} (h2 : ∀ j, j < k → f (l.getD j []) = false) (h : l.length ≤ k) : -1 = idxF f l :=
  idxF_none fun j hj => by have := h2 j (by omega); rwa [getD_of hj] at this
theorem idx_step {f : List Int → Bool} {l : List (List Int)} {k : Nat} (h2 : ∀ j, j < k → f (l.getD j []) = false) (h1 : f (l.getD k []) = false) : ∀ j, j < k + 1 → f (l.getD j []) = false := fun j hj => by
  by_cases e : j = k
  · subst e; exact h1
  · exact h2 j (by omega)
theorem all_step {rows : List (List Int)} {w : Int} {k : Nat} (h2 : ∀ j, j < k → rowErr (rows.getD j []) w = 0) (h1 : rowErr (rows.getD k []) w = 0) : ∀ j, j < k + 1 → rowErr (rows.getD j []) w = 0 := fun j hj => by
  by_cases e : j = k
  · subst e; exact h1
  · exact h2 j (by omega)
theorem Form.row_len {s : DSketch} (h : Form s) {k : Nat} (hk : k < s.counts.length) : ((s.counts.getD k []).length : Int) = s.wide := h.len _ (row_mem hk)
theorem MO.len {f : Int → Int → Int → Int} {s o : DSketch} {k : Nat} (hI : MO f s o k) : o.counts.length = k := by
  obtain ⟨h1, rfl, _⟩ := hI
  simp [mapRows_len, h1]
theorem sumErr_iff {key : ByteArray} : Hash.sumErr key = 0 ↔ key.size ≤ 40 := by unfold Hash.sumErr; split <;> simp <;> omega
theorem key_ok {s : DSketch} {key : ByteArray} (h : keyErr s key = 0) : Ok s ∧ key.size ≤ 40 := by
  unfold keyErr at h
  split at h
  · rename_i h1; exact absurd h h1
  · rename_i h1; exact ⟨check_ok.1 (by simpa using h1), sumErr_iff.1 h⟩
theorem ad1 {s : DSketch} {key : ByteArray} {many : Int} (h : keyErr s key ≠ 0) : add s key many = zero ∧ addErr s key many = keyErr s key := by
  have h1 : addErr s key many = keyErr s key := if_pos h
  exact ⟨if_neg (by rw [h1]; exact h), h1⟩
theorem ad2 {s : DSketch} {key : ByteArray} {many : Int} (h : keyErr s key = 0 ∧ (many < 1 ∨ 1099511627776 < many)) : add s key many = zero ∧ addErr s key many = 3 := by
  have h1 : addErr s key many = 3 := by rw [addErr, if_neg (by simpa using h.1), if_pos h.2]
  exact ⟨if_neg (by rw [h1]; decide), h1⟩
theorem ad3 {s : DSketch} {key : ByteArray} {many : Int} (h : keyErr s key = 0) (hm : 1 ≤ many ∧ many ≤ 1099511627776) (h2 : mapOk (addF key s.wide many) s = false) : add s key many = zero ∧ addErr s key many = 8 := by
  have h1 : addErr s key many = 8 := by rw [addErr, if_neg (by simpa using h), if_neg (by omega), if_neg (by simp [h2])]
  exact ⟨if_neg (by rw [h1]; decide), h1⟩
theorem ad4 {s : DSketch} {key : ByteArray} {many : Int} (h : keyErr s key = 0) (hm : 1 ≤ many ∧ many ≤ 1099511627776) (h2 : mapOk (addF key s.wide many) s = true) : add s key many = mapS (addF key s.wide many) s ∧ addErr s key many = 0 := by
  have h1 : addErr s key many = 0 := by rw [addErr, if_neg (by simpa using h), if_neg (by omega), if_pos h2]
  exact ⟨if_pos h1, h1⟩
theorem mg1 {a b : DSketch} (h : check a ≠ 0) : merge a b = zero ∧ mrgErr a b = check a := by
  have h1 : mrgErr a b = check a := if_pos h
  exact ⟨if_neg (by rw [h1]; exact h), h1⟩
theorem mg2 {a b : DSketch} (h : check a = 0) (h2 : check b ≠ 0) : merge a b = zero ∧ mrgErr a b = check b := by
  have h1 : mrgErr a b = check b := by rw [mrgErr, if_neg (by simpa using h), if_pos h2]
  exact ⟨if_neg (by rw [h1]; exact h2), h1⟩
theorem mg3 {a b : DSketch} (h : check a = 0) (h2 : check b = 0) (h3 : a.wide ≠ b.wide ∨ (a.counts.length : Int) ≠ b.counts.length) : merge a b = zero ∧ mrgErr a b = 7 := by
  have h1 : mrgErr a b = 7 := by rw [mrgErr, if_neg (by simpa using h), if_neg (by simpa using h2), if_pos (by omega)]
  exact ⟨if_neg (by rw [h1]; decide), h1⟩
theorem mg4 {a b : DSketch} (h : check a = 0) (h2 : check b = 0) (h3 : a.wide = b.wide ∧ (a.counts.length : Int) = b.counts.length) (h4 : mapOk (mrgF b.counts) a = false) : merge a b = zero ∧ mrgErr a b = 8 := by
  have h1 : mrgErr a b = 8 := by rw [mrgErr, if_neg (by simpa using h), if_neg (by simpa using h2), if_neg (by omega), if_neg (by simp [h4])]
  exact ⟨if_neg (by rw [h1]; decide), h1⟩
theorem mg5 {a b : DSketch} (h : check a = 0) (h2 : check b = 0) (h3 : a.wide = b.wide ∧ (a.counts.length : Int) = b.counts.length) (h4 : mapOk (mrgF b.counts) a = true) : merge a b = mapS (mrgF b.counts) a ∧ mrgErr a b = 0 := by
  have h1 : mrgErr a b = 0 := by rw [mrgErr, if_neg (by simpa using h), if_neg (by simpa using h2), if_neg (by omega), if_pos h4]
  exact ⟨if_pos h1, h1⟩
/-! ### Halve -/
theorem mem_rows {f : Int → Int → Int → Int} {rows : List (List Int)} {l : List Int} (h : l ∈ mapRows f rows) : ∃ r, r < rows.length ∧ l = mapRow f r (rows.getD r []) := by
  obtain ⟨r, hr, rfl⟩ := List.getElem_of_mem h
  have hr' : r < rows.length := by rwa [mapRows_len] at hr
  exact ⟨r, hr', by rw [← mapRows_get f hr', getD_of hr]⟩
theorem mem_row {f : Int → Int → Int → Int} {r : Nat} {l : List Int} {n : Int} (h : n ∈ mapRow f r l) : ∃ i, i < l.length ∧ n = f r i (l.getD i default) := by
  obtain ⟨i, hi, rfl⟩ := List.getElem_of_mem h
  have hi' : i < l.length := by rwa [mapRow_len] at hi
  exact ⟨i, hi', by rw [← mapRow_get f hi', getD_of hi]⟩
theorem half_fits {s : DSketch} (h : Form s) : mapOk halfF s = true := by
  refine List.all_eq_true.2 fun l hl => List.all_eq_true.2 fun n hn => ?_
  obtain ⟨r, hr, rfl⟩ := mem_rows hl
  obtain ⟨i, hi, rfl⟩ := mem_row hn
  have hb := el_bd (h.bd _ (row_mem hr)) hi
  have e : halfF r i ((s.counts.getD r []).getD i default) = (s.counts.getD r []).getD i default / 2 := Int.tdiv_eq_ediv_of_nonneg hb.1
  rw [e]
  exact decide_eq_true (by omega)
theorem half_map {s : DSketch} (h : Form s) : mapS halfF s = ⟨s.wide, mapRows halfF s.counts⟩ := if_pos (half_fits h)
theorem hv1 {s : DSketch} (h : check s ≠ 0) : halve s = zero ∧ halfErr s = check s := by
  have h1 : halfErr s = check s := if_pos h
  exact ⟨if_neg (by rw [h1]; exact h), h1⟩
theorem hv2 {s : DSketch} (h : check s = 0) (h2 : even (mapS halfF s).counts = false) : halve s = zero ∧ halfErr s = 4 := by
  rw [half_map (check_ok.1 h).toForm] at h2
  have h1 : halfErr s = 4 := by rw [halfErr, if_neg (by simpa using h), if_neg (by simp [h2])]
  exact ⟨if_neg (by rw [h1]; decide), h1⟩
theorem hv3 {s : DSketch} (h : check s = 0) (h2 : even (mapS halfF s).counts = true) : halve s = mapS halfF s ∧ halfErr s = 0 := by
  rw [half_map (check_ok.1 h).toForm] at h2
  have h1 : halfErr s = 0 := by rw [halfErr, if_neg (by simpa using h), if_pos h2]
  exact ⟨if_pos h1, h1⟩
theorem mapRows_bd {s : DSketch} (h : Form s) {f : Int → Int → Int → Int} (hf : ∀ r i n, 0 ≤ n ∧ n ≤ 1099511627776 → 0 ≤ f r i n) (hk : mapOk f s = true) : Form ⟨s.wide, mapRows f s.counts⟩ where
  pos := by simpa [mapRows_len] using h.pos
  few := by simpa [mapRows_len] using h.few
  w1 := h.w1
  w2 := h.w2
  len := fun l hl => by
    obtain ⟨r, hr, rfl⟩ := mem_rows hl
    rw [mapRow_len]; exact h.len _ (row_mem hr)
  bd := fun l hl n hn => by
    have h9 := List.all_eq_true.1 (List.all_eq_true.1 hk l hl) n hn
    refine ⟨?_, by simpa using h9⟩
    obtain ⟨r, hr, rfl⟩ := mem_rows hl
    obtain ⟨i, hi, rfl⟩ := mem_row hn
    exact hf _ _ _ (el_bd (h.bd _ (row_mem hr)) hi)
theorem half_form {s : DSketch} (h : Form s) : Form (mapS halfF s) := by
  rw [half_map h]
  exact mapRows_bd h (fun _ _ n hn => by rw [halfF, Int.tdiv_eq_ediv_of_nonneg hn.1]; omega) (half_fits h)
end Go.Sx.Sk
