/- Stores with times: the plain functions. -/
import Derived.Test.YthecfjipaepcgaaLbPure
namespace Go.Sx
structure DEntry where
  key : Int
  value : Int
  till : Int
deriving DecidableEq
instance : Inhabited DEntry := ⟨⟨0, 0, 0⟩⟩
def tEntry : Ty DEntry := ⟨3, fun c => [.int .i64 c.key, .int .i64 c.value, .int .i64 c.till], fun _ => rfl⟩
structure DStore where
  life : Int
  entries : List DEntry
deriving DecidableEq
/-- the first place that isn't below, in a list where all that is below stands ahead -/
def lowF {α : Type} (f : α → Int) (l : List α) : Nat := (l.takeWhile fun x => decide (f x < 0)).length
structure LowI {α : Type} (f : α → Int) (l : List α) (i j : Int) : Prop where
  i0 : 0 ≤ i
  ij : i ≤ j
  jl : j ≤ (l.length : Int)
  below : ∀ k (h : k < l.length), (k : Int) < i → f l[k] < 0
  above : ∀ k (h : k < l.length), j ≤ (k : Int) → 0 ≤ f l[k]
/-- all that is below stands ahead -/
def Split {α : Type} (f : α → Int) (l : List α) : Prop := ∀ a b (hb : b < l.length) (h : a < b), f l[b] < 0 → f (l[a]'(by omega)) < 0
theorem lowF_eq {α : Type} {f : α → Int} {l : List α} {p : Nat} (hp : p ≤ l.length) (h1 : ∀ k (h : k < l.length), k < p → f l[k] < 0) (h2 : ∀ h : p < l.length, 0 ≤ f l[p]) : lowF f l = p := by
  unfold lowF
  have e : l = l.take p ++ l.drop p := (List.take_append_drop p l).symm
  have h3 : ∀ x ∈ l.take p, decide (f x < 0) = true := fun x hx => by
    obtain ⟨k, hk, rfl⟩ := List.getElem_of_mem hx
    simp only [List.length_take] at hk
    rw [List.getElem_take]; exact decide_eq_true (h1 k (by omega) (by omega))
  conv => lhs; rw [e]
  rw [List.takeWhile_append_of_pos h3]
  have h4 : (l.drop p).takeWhile (fun x => decide (f x < 0)) = [] := by
    by_cases hl : p < l.length
    · rw [List.drop_eq_getElem_cons hl, List.takeWhile_cons, if_neg]
      have := h2 hl; simp; omega
    · rw [List.drop_of_length_le (by omega)]; rfl
  rw [h4, List.append_nil, List.length_take]; omega
theorem lowF_le {α : Type} (f : α → Int) (l : List α) : lowF f l ≤ l.length := by
  unfold lowF; exact (List.takeWhile_sublist _).length_le
theorem LowI.start {α : Type} (f : α → Int) (l : List α) : LowI f l 0 l.length := ⟨Int.le_refl _, by omega, Int.le_refl _, fun k h h2 => by omega, fun k h h2 => by omega⟩
theorem LowI.up {α : Type} {f : α → Int} {l : List α} {i j h : Int} (hI : LowI f l i j) (hs : Split f l) (h1 : i ≤ h) (h2 : h < j) (hl : h.toNat < l.length) (hf : f l[h.toNat] < 0) : LowI f l (h + 1) j :=
  ⟨by have := hI.i0; omega, by omega, hI.jl, fun k hk hlt => by
    by_cases e : k = h.toNat
    · subst e; exact hf
    · exact hs k h.toNat hl (by have := hI.i0; omega) hf, hI.above⟩
theorem LowI.down {α : Type} {f : α → Int} {l : List α} {i j h : Int} (hI : LowI f l i j) (hs : Split f l) (h1 : i ≤ h) (h2 : h < j) (hl : h.toNat < l.length) (hf : 0 ≤ f l[h.toNat]) : LowI f l i h :=
  ⟨hI.i0, h1, by have := hI.jl; omega, hI.below, fun k hk hle => by
    by_cases e : k = h.toNat
    · subst e; exact hf
    · rcases Int.lt_or_le (f l[k]) 0 with h3 | h3
      · have := hs h.toNat k hk (by have := hI.i0; omega) h3; omega
      · exact h3⟩
theorem LowI.done {α : Type} {f : α → Int} {l : List α} {i j : Int} (hI : LowI f l i j) (h : j ≤ i) : i = (lowF f l : Int) := by
  have h0 := hI.i0; have h1 := hI.ij; have h2 := hI.jl
  rw [lowF_eq (p := i.toNat) (by omega) (fun k hk hlt => hI.below k hk (by omega)) (fun hl => hI.above _ hl (by omega))]; omega
namespace Exp
def okEntry (x : DEntry) : Bool := Lru.okKey x.key && decide (-1099511627776 ≤ x.value) && decide (x.value ≤ 1099511627776) && decide (0 ≤ x.till) && decide (x.till ≤ 1100585369600)
def checkGo (last : Int) : List DEntry → Int
  | [] => 0
  | x :: l => if okEntry x = false then 3 else if x.key ≤ last then 4 else checkGo x.key l
def check (s : DStore) : Int := if s.life < 1 ∨ 1073741824 < s.life then 3 else if 40 < s.entries.length then 2 else checkGo (-1) s.entries
structure Ok (s : DStore) : Prop where
  life : 1 ≤ s.life ∧ s.life ≤ 1073741824
  len : s.entries.length ≤ 40
  entry : ∀ x ∈ s.entries, okEntry x = true
  sorted : s.entries.Pairwise fun a b => a.key < b.key
theorem okEntry_iff {x : DEntry} : okEntry x = true ↔ (0 ≤ x.key ∧ x.key ≤ 1048576) ∧ (-1099511627776 ≤ x.value ∧ x.value ≤ 1099511627776) ∧ (0 ≤ x.till ∧ x.till ≤ 1100585369600) := by
  simp [okEntry, Lru.okKey, and_assoc]
theorem checkGo_ok : ∀ (l : List DEntry) (last : Int), checkGo last l = 0 ↔ (∀ x ∈ l, okEntry x = true) ∧ (∀ x ∈ l, last < x.key) ∧ l.Pairwise fun a b => a.key < b.key
  | [], last => by simp [checkGo]
  | x :: l, last => by
    rw [checkGo]
    by_cases h1 : okEntry x = false
    · rw [if_pos h1]; simp [h1]
    · rw [if_neg h1]
      by_cases h2 : x.key ≤ last
      · rw [if_pos h2]
        refine ⟨fun h => absurd h (by decide), fun h => ?_⟩
        have := h.2.1 x (by simp); omega
      · rw [if_neg h2, checkGo_ok l]
        have h1' : okEntry x = true := by simpa using h1
        simp only [List.mem_cons, List.pairwise_cons]
        constructor
        · rintro ⟨a, b, c⟩
          refine ⟨by rintro y (rfl | hy); exact h1'; exact a y hy, ?_, b, c⟩
          rintro y (rfl | hy)
          · omega
          · have := b y hy; omega
        · rintro ⟨a, b, c, d⟩
          exact ⟨fun y hy => a y (.inr hy), c, d⟩
theorem check_ok {s : DStore} : check s = 0 ↔ Ok s := by
  unfold check
  constructor
  · intro e
    split at e
    · cases e
    · split at e
      · cases e
      · have := (checkGo_ok _ _).1 e
        exact ⟨by omega, by omega, this.1, this.2.2⟩
  · rintro ⟨a, b, c, d⟩
    rw [if_neg (by omega), if_neg (by omega)]
    exact (checkGo_ok _ _).2 ⟨c, fun x hx => by have := okEntry_iff.1 (c x hx); omega, d⟩
def live (now : Int) (l : List DEntry) : List DEntry := l.filter fun x => decide (now < x.till)
def over (now : Int) (l : List DEntry) : List Int := (l.filter fun x => decide (x.till ≤ now)).map (·.key)
def okNow (now : Int) : Bool := decide (0 ≤ now) && decide (now ≤ 1099511627776)
def nowErr (s : DStore) (now : Int) : Int := if check s = 0 then (if okNow now then 0 else 3) else check s
def zero : DStore := ⟨0, []⟩
def sweep (s : DStore) (now : Int) : DStore × List Int := if nowErr s now = 0 then (⟨s.life, live now s.entries⟩, over now s.entries) else (zero, [])
def getErr (s : DStore) (key now : Int) : Int := if nowErr s now = 0 then (if Lru.okKey key then 0 else 3) else nowErr s now
def getGo (l : List DEntry) (key now : Int) : Int × Bool := match (live now l).find? (fun x => x.key == key) with | some x => (x.value, true) | none => (0, false)
def get (s : DStore) (key now : Int) : Int × Bool := if getErr s key now = 0 then getGo s.entries key now else (0, false)
def okValue (n : Int) : Bool := decide (-1099511627776 ≤ n) && decide (n ≤ 1099511627776)
def putGo (l : List DEntry) (x : DEntry) : List DEntry := l.filter (fun y => decide (y.key < x.key)) ++ x :: l.filter (fun y => decide (x.key < y.key))
def putErr (s : DStore) (key n now : Int) : Int := if getErr s key now = 0 then (if okValue n then (if 40 < (putGo (live now s.entries) ⟨key, n, now + s.life⟩).length then 8 else 0) else 3) else getErr s key now
def put (s : DStore) (key n now : Int) : DStore := if putErr s key n now = 0 then ⟨s.life, putGo (live now s.entries) ⟨key, n, now + s.life⟩⟩ else zero
def least : List DEntry → Int
  | [] => 0
  | x :: l => l.foldl (fun m y => min m y.till) x.till
def nextErr (s : DStore) : Int := if check s = 0 then (if s.entries.length = 0 then 5 else 0) else check s
def next (s : DStore) : Int := if nextErr s = 0 then least s.entries else 0
end Exp
end Go.Sx
