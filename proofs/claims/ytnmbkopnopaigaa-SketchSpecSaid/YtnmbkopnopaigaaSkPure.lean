/- Sketches: the plain functions. -/
import Derived.Test.YtnmbkopnopaigaaSx31
import Derived.Test.YtnmbkopnopaigaaHaPure
namespace Go.Sx
structure DSketch where
  wide : Int
  counts : List (List Int)
deriving DecidableEq
/-- a sketch as it stands in a list of sketches -/
structure SkHdr where
  wide : Int
  a : Option Addr
  len : Nat
  cap : Nat
def tSkHdr : Ty SkHdr := ⟨2, fun h => [.int .i64 h.wide, .slice h.a h.len h.cap], fun _ => rfl⟩
namespace Sk
def zero : DSketch := ⟨0, []⟩
def sum (l : List Int) : Int := l.sum
def okN (n : Int) : Bool := decide (0 ≤ n) && decide (n ≤ 1099511627776)
def rowErr (l : List Int) (wide : Int) : Int := if (l.length : Int) ≠ wide then 1 else if l.any (fun n => !okN n) then 3 else 0
def rowsErr : List (List Int) → Int → Int
  | [], _ => 0
  | l :: r, wide => if rowErr l wide ≠ 0 then rowErr l wide else rowsErr r wide
def even (rows : List (List Int)) : Bool := !rows.any (fun l => sum l != sum (rows.getD 0 []))
def check (s : DSketch) : Int := if s.counts.length = 0 then 1 else if 6 < s.counts.length then 2 else if s.wide < 1 ∨ 64 < s.wide then 3 else
  if rowsErr s.counts s.wide ≠ 0 then rowsErr s.counts s.wide else if even s.counts then 0 else 4
def keyErr (s : DSketch) (key : ByteArray) : Int := if check s ≠ 0 then check s else Hash.sumErr key
def place (key : ByteArray) (row wide : Int) : Int := Hash.rawFold (Hash.salted key (toU row)) wide
def mapRow (f : Int → Int → Int → Int) (r : Nat) (l : List Int) : List Int := l.mapIdx fun i n => f r i n
def mapRows (f : Int → Int → Int → Int) (rows : List (List Int)) : List (List Int) := rows.mapIdx fun r l => mapRow f r l
def fitsRow (l : List Int) : Bool := l.all fun n => decide (n ≤ 1099511627776)
def fits (rows : List (List Int)) : Bool := rows.all fitsRow
def mapOk (f : Int → Int → Int → Int) (s : DSketch) : Bool := fits (mapRows f s.counts)
def mapS (f : Int → Int → Int → Int) (s : DSketch) : DSketch := if mapOk f s then ⟨s.wide, mapRows f s.counts⟩ else zero
/-- what Check says of a sketch that it finds right -/
structure Form (s : DSketch) : Prop where
  pos : 1 ≤ s.counts.length
  few : s.counts.length ≤ 6
  w1 : 1 ≤ s.wide
  w2 : s.wide ≤ 64
  len : ∀ l ∈ s.counts, (l.length : Int) = s.wide
  bd : ∀ l ∈ s.counts, ∀ n ∈ l, 0 ≤ n ∧ n ≤ 1099511627776
structure Ok (s : DSketch) : Prop extends Form s where
  same : ∀ l ∈ s.counts, sum l = sum (s.counts.getD 0 [])
def addF (key : ByteArray) (wide many : Int) (r i n : Int) : Int := if i = place key r wide then IntKind.i64.wrap (n + many) else n
def addErr (s : DSketch) (key : ByteArray) (many : Int) : Int := if keyErr s key ≠ 0 then keyErr s key else if many < 1 ∨ 1099511627776 < many then 3 else if mapOk (addF key s.wide many) s then 0 else 8
def add (s : DSketch) (key : ByteArray) (many : Int) : DSketch := if addErr s key many = 0 then mapS (addF key s.wide many) s else zero
def at_ (s : DSketch) (key : ByteArray) (r : Nat) : Int := (s.counts.getD r []).getD (place key r s.wide).toNat default
def leastTo (s : DSketch) (key : ByteArray) : Nat → Int
  | 0 => at_ s key 0
  | k + 1 => min (leastTo s key k) (at_ s key k)
def est (s : DSketch) (key : ByteArray) : Int := if keyErr s key = 0 then leastTo s key s.counts.length else 0
def mrgF (b : List (List Int)) (r i n : Int) : Int := IntKind.i64.wrap (n + (b.getD r.toNat []).getD i.toNat default)
def mrgErr (a b : DSketch) : Int := if check a ≠ 0 then check a else if check b ≠ 0 then check b else if a.wide ≠ b.wide ∨ a.counts.length ≠ b.counts.length then 7 else if mapOk (mrgF b.counts) a then 0 else 8
def merge (a b : DSketch) : DSketch := if mrgErr a b = 0 then mapS (mrgF b.counts) a else zero
def halfF (_r _i n : Int) : Int := n.tdiv 2
def halfErr (s : DSketch) : Int := if check s ≠ 0 then check s else if even (mapRows halfF s.counts) then 0 else 4
def halve (s : DSketch) : DSketch := if halfErr s = 0 then mapS halfF s else zero
def total (s : DSketch) : Int := if check s = 0 then sum (s.counts.getD 0 []) else 0
theorem sum_take {l : List Int} {k : Nat} (h : k < l.length) : sum (l.take (k + 1)) = sum (l.take k) + l.getD k default := by
  unfold sum
  rw [List.take_succ_eq_append_getElem h, List.sum_append]
  simp [List.getD_eq_getElem?_getD, h]
theorem sum_bd {l : List Int} (h : ∀ n ∈ l, 0 ≤ n ∧ n ≤ 1099511627776) : 0 ≤ sum l ∧ sum l ≤ 1099511627776 * (l.length : Int) := by
  unfold sum
  induction l with
  | nil => simp
  | cons x l ih =>
    have h1 := h x (by simp)
    have h2 := ih fun n hn => h n (by simp [hn])
    simp only [List.sum_cons, List.length_cons]
    omega
theorem getD_mem {α : Type} {l : List α} {i : Nat} {d : α} (h : i < l.length) : l.getD i d ∈ l := by
  rw [List.getD_eq_getElem?_getD, List.getElem?_eq_getElem h]; exact List.getElem_mem h
theorem okN_iff {n : Int} : okN n = true ↔ 0 ≤ n ∧ n ≤ 1099511627776 := by simp [okN]
theorem rowErr0 {l : List Int} {w : Int} : rowErr l w = 0 ↔ (l.length : Int) = w ∧ ∀ n ∈ l, 0 ≤ n ∧ n ≤ 1099511627776 := by
  unfold rowErr
  split
  · rename_i h; simp; intro h2; exact absurd h2 h
  · rename_i h
    split
    · rename_i h2
      refine ⟨fun h => (by cases h), fun h3 => ?_⟩
      obtain ⟨n, hn, h4⟩ := List.any_eq_true.1 h2
      have := okN_iff.2 (h3.2 n hn)
      simp [this] at h4
    · rename_i h2
      refine ⟨fun _ => ⟨by simpa using h, fun n hn => ?_⟩, fun _ => rfl⟩
      cases h5 : okN n with
      | true => exact okN_iff.1 h5
      | false => exact absurd (List.any_eq_true.2 ⟨n, hn, by simp [h5]⟩) h2
theorem rowsErr0 {rows : List (List Int)} {w : Int} : rowsErr rows w = 0 ↔ ∀ l ∈ rows, rowErr l w = 0 := by
  induction rows with
  | nil => simp [rowsErr]
  | cons l r ih =>
    unfold rowsErr
    by_cases h : rowErr l w = 0
    · rw [if_neg (by simpa using h), ih]; simp [h]
    · rw [if_pos h]; simp [h]
theorem even_iff {rows : List (List Int)} : even rows = true ↔ ∀ l ∈ rows, sum l = sum (rows.getD 0 []) := by
  unfold even
  rw [Bool.not_eq_true', List.any_eq_false]
  simp
theorem check_ok {s : DSketch} : check s = 0 ↔ Ok s := by
  unfold check
  constructor
  · intro h
    split at h; · cases h
    split at h; · cases h
    split at h; · cases h
    rename_i h1 h2 h3
    split at h
    · rename_i h4; exact absurd h h4
    rename_i h4
    split at h
    · rename_i h5
      have h4' : rowsErr s.counts s.wide = 0 := by simpa using h4
      have h6 := fun l hl => rowErr0.1 (rowsErr0.1 h4' l hl)
      exact ⟨⟨by omega, by omega, by omega, by omega, fun l hl => (h6 l hl).1, fun l hl => (h6 l hl).2⟩, even_iff.1 h5⟩
    · cases h
  · intro h
    have h1 := h.pos; have h2 := h.few; have h3 := h.w1; have h4 := h.w2
    rw [if_neg (by omega), if_neg (by omega), if_neg (by omega), if_neg (by simpa using rowsErr0.2 fun l hl => rowErr0.2 ⟨h.len l hl, h.bd l hl⟩), if_pos (even_iff.2 h.same)]
end Sk
end Go.Sx
