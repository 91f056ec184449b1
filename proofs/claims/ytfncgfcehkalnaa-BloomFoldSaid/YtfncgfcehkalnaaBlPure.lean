/- Bloom filters: the plain functions. -/
import Derived.Test.YtfncgfcehkalnaaHaLaw2
import Derived.Test.YtfncgfcehkalnaaHaLaw
import Derived.Test.YtfncgfcehkalnaaExLaw
import Derived.Test.YtfncgfcehkalnaaSx29
namespace Go.Sx
structure DFilter where
  size : Int
  hashes : Int
  set : List Int
deriving DecidableEq
/-- a filter as an element of a list -/
structure FHdr where
  size : Int
  hashes : Int
  a : Option Addr
  cap : Nat
  L : List Int
instance : Inhabited FHdr := ⟨⟨0, 0, none, 0, []⟩⟩
def tFHdr : Ty FHdr := ⟨3, fun h => [.int .i64 h.size, .int .i64 h.hashes, .slice h.a h.L.length h.cap], fun _ => rfl⟩
namespace Bl
/-! ### lists that rise -/
def insU (x : Int) : List Int → List Int
  | [] => [x]
  | y :: l => if x < y then x :: y :: l else if x = y then y :: l else y :: insU x l
def once (l : List Int) : List Int := l.foldr insU []
def Up (l : List Int) : Prop := l.Pairwise (· < ·)
theorem insU_mem {x z : Int} : ∀ {l : List Int}, z ∈ insU x l ↔ z = x ∨ z ∈ l
  | [] => by simp [insU]
  | y :: l => by
    simp only [insU]
    split
    · simp
    · split
      · rename_i e; subst e; simp
      · simp only [List.mem_cons, insU_mem]
        constructor
        · rintro (h | h | h) <;> simp [h]
        · rintro (h | h | h) <;> simp [h]
theorem insU_up {x : Int} : ∀ {l : List Int}, Up l → Up (insU x l)
  | [], _ => by simp [insU, Up]
  | y :: l, h => by
    obtain ⟨h1, h2⟩ := List.pairwise_cons.1 h
    simp only [insU]
    split
    · rename_i hx
      refine List.pairwise_cons.2 ⟨fun z hz => ?_, h⟩
      rcases List.mem_cons.1 hz with e | e
      · omega
      · have := h1 z e; omega
    · split
      · exact h
      · refine List.pairwise_cons.2 ⟨fun z hz => ?_, insU_up h2⟩
        rcases insU_mem.1 hz with e | e
        · omega
        · exact h1 z e
theorem once_mem {z : Int} {l : List Int} : z ∈ once l ↔ z ∈ l := by
  induction l with
  | nil => simp [once]
  | cons x l ih =>
    show z ∈ insU x (once l) ↔ _
    rw [insU_mem, ih, List.mem_cons]
theorem once_up (l : List Int) : Up (once l) := by
  induction l with
  | nil => exact List.Pairwise.nil
  | cons x l ih => exact insU_up ih
/-- two lists that rise with the same elements are one -/
theorem up_eq : ∀ {l m : List Int}, Up l → Up m → (∀ x, x ∈ l ↔ x ∈ m) → l = m
  | [], [], _, _, _ => rfl
  | [], y :: m, _, _, h => absurd ((h y).2 (by simp)) (by simp)
  | x :: l, [], _, _, h => absurd ((h x).1 (by simp)) (by simp)
  | x :: l, y :: m, hl, hm, h => by
    have h1 := List.pairwise_cons.1 hl
    have h2 := List.pairwise_cons.1 hm
    have e : x = y := by
      rcases List.mem_cons.1 ((h x).1 (by simp)) with e | e
      · exact e
      · rcases List.mem_cons.1 ((h y).2 (by simp)) with e2 | e2
        · exact e2.symm
        · have := h1.1 y e2; have := h2.1 x e; omega
    subst e
    congr 1
    refine up_eq h1.2 h2.2 fun z => ⟨fun hz => ?_, fun hz => ?_⟩
    · rcases List.mem_cons.1 ((h z).1 (by simp [hz])) with e | e
      · subst e; have := h1.1 z hz; omega
      · exact e
    · rcases List.mem_cons.1 ((h z).2 (by simp [hz])) with e | e
      · subst e; have := h2.1 z hz; omega
      · exact e
theorem sortL_sorted (l : List Int) : (sortL l).Pairwise (· ≤ ·) := by
  have := List.pairwise_mergeSort (le := fun x y : Int => decide (x ≤ y)) (fun a b c h1 h2 => by simp at *; omega) (fun a b => by simp; omega) l
  exact this.imp fun h => by simpa using h
theorem compact_up {l : List Int} (h : l.Pairwise (· ≤ ·)) : Up (compactL l) ∧ ∀ x, x ∈ compactL l ↔ x ∈ l := by
  have hs := List.pairwise_iff_getElem.1 h
  have hat : ∀ j, j < l.length → l.toArray[j]! = l.getD j 0 := fun j hj => by
    rw [getElem!_pos l.toArray j (by simpa using hj), ← getd_at hj 0]; simp
  have hle : ∀ i j, i ≤ j → j < l.length → l.getD i 0 ≤ l.getD j 0 := fun i j h1 h2 => by
    rw [← getd_at (show i < l.length by omega) 0, ← getd_at h2 0]
    rcases Nat.eq_or_lt_of_le h1 with e | e
    · subst e; exact Int.le_refl _
    · exact hs i j _ _ e
  constructor
  · unfold compactL Go.Lib.compact Go.Lib.compactUpTo Up
    rw [List.pairwise_map, List.pairwise_filter]
    refine List.pairwise_lt_range.imp_of_mem fun {a b} ha hb hab _ hkb => ?_
    have hb' := List.mem_range.1 hb
    have hk : b = 0 ∨ l.toArray[b]! ≠ l.toArray[b - 1]! := by simpa [Go.Lib.keeps] using hkb
    rw [hat a (by omega), hat b hb']
    rcases hk with hk | hk
    · omega
    · rw [hat b hb', hat (b - 1) (by omega)] at hk
      have h1 := hle a (b - 1) (by omega) (by omega)
      have h2 := hle (b - 1) b (by omega) hb'
      omega
  · intro x
    unfold compactL Go.Lib.compact Go.Lib.compactUpTo
    rw [List.mem_map]
    constructor
    · rintro ⟨j, hj, rfl⟩
      have hj' := List.mem_range.1 (List.mem_filter.1 hj).1
      rw [hat j hj', ← getd_at hj' 0]; exact List.getElem_mem hj'
    · intro hx
      obtain ⟨j, hj, rfl⟩ := List.getElem_of_mem hx
      rw [getd_at hj 0]
      induction j with
      | zero => exact ⟨0, List.mem_filter.2 ⟨List.mem_range.2 hj, by simp [Go.Lib.keeps]⟩, hat 0 hj⟩
      | succ j ih =>
        by_cases e : l.getD (j + 1) 0 = l.getD j 0
        · rw [e]; exact ih (by omega) (List.getElem_mem (by omega))
        · refine ⟨j + 1, List.mem_filter.2 ⟨List.mem_range.2 hj, ?_⟩, hat _ hj⟩
          simp only [Go.Lib.keeps, decide_eq_true_eq]
          right
          rw [hat (j + 1) hj, show j + 1 - 1 = j by omega, hat j (by omega)]; exact e
theorem once_eq (l : List Int) : compactL (sortL l) = once l := by
  obtain ⟨h1, h2⟩ := compact_up (sortL_sorted l)
  exact up_eq h1 (once_up l) fun x => by rw [h2, once_mem, (sortL_perm l).mem_iff]
theorem once_len (l : List Int) : (once l).length ≤ l.length := by
  rw [← once_eq]; exact Nat.le_trans (compactL_len _) (Nat.le_of_eq (sortL_len l))
/-- how many numbers below a bound rise -/
theorem up_len {l : List Int} {n : Int} (h : Up l) (hb : ∀ x ∈ l, 0 ≤ x ∧ x < n) : (l.length : Int) ≤ n ∨ l = [] := by
  have key : ∀ (i : Nat) (hi : i < l.length), (i : Int) ≤ l[i] := by
    intro i
    induction i with
    | zero => intro hi; have := (hb _ (List.getElem_mem hi)).1; omega
    | succ i ih =>
      intro hi
      have h1 := ih (by omega)
      have h2 := List.pairwise_iff_getElem.1 h i (i + 1) (by omega) hi (by omega)
      have h3 : l[i] < l[i + 1] := h2
      omega
  match l, h, hb, key with
  | [], _, _, _ => exact .inr rfl
  | x :: r, _, hb, key =>
    left
    have h1 := key r.length (by simp)
    have h2 := (hb _ (List.getElem_mem (show r.length < (x :: r).length by simp))).2
    simp only [List.length_cons]; omega
/-! ### filters -/
def scan (size : Int) (last : Int) : List Int → Int
  | [] => 0
  | a :: l => if a < 0 ∨ size ≤ a then 3 else if a ≤ last then 4 else scan size a l
def check (f : DFilter) : Int := if ((f.size < 1 ∨ 1024 < f.size) ∨ f.hashes < 1) ∨ 8 < f.hashes then 3 else if f.size < (f.set.length : Int) then 2 else scan f.size (-1) f.set
structure Ok (f : DFilter) : Prop where
  size : 1 ≤ f.size ∧ f.size ≤ 1024
  hashes : 1 ≤ f.hashes ∧ f.hashes ≤ 8
  up : Up f.set
  bd : ∀ x ∈ f.set, 0 ≤ x ∧ x < f.size
theorem scan_ok {size : Int} : ∀ {l : List Int} {last : Int}, scan size last l = 0 ↔ (∀ x ∈ l, (0 ≤ x ∧ x < size) ∧ last < x) ∧ Up l
  | [], last => by simp [scan, Up]
  | a :: l, last => by
    rw [scan]
    split
    · rename_i h
      constructor
      · intro e; cases e
      · intro e; have := (e.1 a (by simp)).1; omega
    · rename_i h
      split
      · rename_i h2
        constructor
        · intro e; cases e
        · intro e; have := (e.1 a (by simp)).2; omega
      · rename_i h2
        rw [scan_ok]
        unfold Up
        rw [List.pairwise_cons]
        constructor
        · rintro ⟨h3, h4⟩
          refine ⟨fun x hx => ?_, fun x hx => (h3 x hx).2, h4⟩
          rcases List.mem_cons.1 hx with e | e
          · rw [e]; omega
          · have := h3 x e; omega
        · rintro ⟨h3, h4, h5⟩
          exact ⟨fun x hx => ⟨(h3 x (by simp [hx])).1, h4 x hx⟩, h5⟩
theorem check_ok {f : DFilter} : check f = 0 ↔ Ok f := by
  unfold check
  split
  · constructor
    · intro e; cases e
    · intro e; have := e.size; have := e.hashes; omega
  · rename_i h
    split
    · rename_i h2
      constructor
      · intro e; cases e
      · intro e
        rcases up_len e.up e.bd with h3 | h3
        · omega
        · rw [h3] at h2; have := e.size; simp at h2; omega
    · rw [scan_ok]
      constructor
      · rintro ⟨h3, h4⟩; exact ⟨by omega, by omega, h4, fun x hx => (h3 x hx).1⟩
      · intro e; exact ⟨fun x hx => ⟨e.bd x hx, by have := e.bd x hx; omega⟩, e.up⟩
theorem Ok.len {f : DFilter} (h : Ok f) : (f.set.length : Int) ≤ f.size := by
  rcases up_len h.up h.bd with h1 | h1
  · exact h1
  · rw [h1]; have := h.size; simp; omega
def zero : DFilter := ⟨0, 0, []⟩
def place (f : DFilter) (s : ByteArray) (i : Int) : Int := Hash.rawFold (Hash.salted s (toU i)) f.size
def places (f : DFilter) (s : ByteArray) : List Int := once ((List.range f.hashes.toNat).map fun i : Nat => place f s (i : Int))
def keyErr (f : DFilter) (s : ByteArray) : Int := if check f ≠ 0 then check f else Hash.sumErr s
def bits (f : DFilter) (s : ByteArray) : List Int := if keyErr f s = 0 then places f s else []
def add (f : DFilter) (s : ByteArray) : DFilter := if keyErr f s = 0 then ⟨f.size, f.hashes, once (f.set ++ places f s)⟩ else zero
def may (f : DFilter) (s : ByteArray) : Bool := if keyErr f s = 0 then !(places f s).any (fun x => !decide (x ∈ f.set)) else false
def uniErr (a b : DFilter) : Int := if check a ≠ 0 then check a else if check b ≠ 0 then check b else if a.size ≠ b.size ∨ a.hashes ≠ b.hashes then 7 else 0
def uni (a b : DFilter) : DFilter := if uniErr a b = 0 then ⟨a.size, a.hashes, once (a.set ++ b.set)⟩ else zero
def foldErr (f : DFilter) : Int := if check f ≠ 0 then check f else if f.size.tmod 2 ≠ 0 then 4 else 0
def fold (f : DFilter) : DFilter := if foldErr f = 0 then ⟨f.size.tdiv 2, f.hashes, once (f.set.map fun x => x.tdiv 2)⟩ else zero
end Bl
end Go.Sx
