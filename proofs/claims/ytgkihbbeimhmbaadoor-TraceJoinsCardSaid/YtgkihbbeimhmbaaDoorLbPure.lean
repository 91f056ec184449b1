/- Common plain functions: keys, traces, places in lists. -/
import Derived.Test.YtgkihbbeimhmbaaDoorSx14
namespace Go.Sx
def idxF {α : Type} (f : α → Bool) (l : List α) : Int := if l.findIdx f < l.length then (l.findIdx f : Int) else -1
theorem idxF_found {α : Type} {f : α → Bool} {l : List α} {k : Nat} (hk : k < l.length) (hp : f l[k] = true) (hn : ∀ j (h : j < l.length), j < k → f l[j] = false) : (k : Int) = idxF f l := by
  have e : l.findIdx f = k := (List.findIdx_eq hk).2 ⟨hp, fun j hj => hn j (by omega) hj⟩
  unfold idxF; rw [e, if_pos hk]
theorem idxF_none {α : Type} {f : α → Bool} {l : List α} (hn : ∀ j (h : j < l.length), f l[j] = false) : -1 = idxF f l := by
  unfold idxF; rw [if_neg]
  intro h
  have := List.findIdx_getElem (w := h)
  rw [hn _ h] at this; cases this
theorem idxF_cases {α : Type} (f : α → Bool) (l : List α) : (∃ k, ∃ h : k < l.length, idxF f l = (k : Int) ∧ f l[k] = true ∧ ∀ j (h : j < l.length), j < k → f l[j] = false) ∨ (idxF f l = -1 ∧ ∀ x ∈ l, f x = false) := by
  by_cases h : l.findIdx f < l.length
  · refine .inl ⟨l.findIdx f, h, by unfold idxF; rw [if_pos h], List.findIdx_getElem (w := h), fun j hj hlt => ?_⟩
    have := List.not_of_lt_findIdx hlt
    simpa using this
  · refine .inr ⟨by unfold idxF; rw [if_neg h], fun x hx => ?_⟩
    have h2 : l.findIdx f = l.length := by have := List.findIdx_le_length (p := f) (xs := l); omega
    exact List.findIdx_eq_length.1 h2 x hx
theorem idxF_lt {α : Type} (f : α → Bool) (l : List α) : idxF f l < l.length ∧ -1 ≤ idxF f l := by
  rcases idxF_cases f l with ⟨k, h, e, _⟩ | ⟨e, _⟩ <;> rw [e] <;> omega
theorem any_idxF {α : Type} (f : α → Bool) (l : List α) : l.any f = decide (0 ≤ idxF f l) := by
  rcases idxF_cases f l with ⟨k, h, e, h1, _⟩ | ⟨e, h1⟩ <;> rw [e]
  · rw [decide_eq_true (by omega)]; exact List.any_eq_true.2 ⟨_, List.getElem_mem h, h1⟩
  · rw [decide_eq_false (by omega)]; exact List.any_eq_false.2 fun x hx => by rw [h1 x hx]; simp
namespace Lru
def okKey (n : Int) : Bool := decide (0 ≤ n) && decide (n ≤ 1048576)
def okRoom (n : Int) : Bool := decide (1 ≤ n) && decide (n ≤ 40)
theorem room_ok {n : Int} (h : okRoom n = true) : 1 ≤ n ∧ n ≤ 40 := by simpa [okRoom] using h
theorem key_ok {n : Int} (h : okKey n = true) : 0 ≤ n ∧ n ≤ 1048576 := by simpa [okKey] using h
def keysGo (pre : List Int) : List Int → Int
  | [] => 0
  | k :: l => if okKey k = false then 3 else if k ∈ pre then 6 else keysGo (pre ++ [k]) l
def keys (l : List Int) : Int := keysGo [] l
def trace (l : List Int) : Int := if 200 < l.length then 2 else if l.any (fun k => !okKey k) then 3 else 0
theorem keysGo_step {l : List Int} {i : Nat} (h : i < l.length) : keysGo (l.take i) (l.drop i) = if okKey l[i] = false then 3 else if l[i] ∈ l.take i then 6 else keysGo (l.take (i + 1)) (l.drop (i + 1)) := by
  rw [List.drop_eq_getElem_cons h, keysGo, List.take_succ_eq_append_getElem h]
theorem keys_bad {l : List Int} {i : Nat} (h : i < l.length) (hI : keysGo (l.take i) (l.drop i) = keys l) (hb : okKey l[i] = false) : 3 = keys l := by rw [← hI, keysGo_step h, if_pos hb]
theorem keys_twice {l : List Int} {i : Nat} (h : i < l.length) (hI : keysGo (l.take i) (l.drop i) = keys l) (hb : okKey l[i] = true) (ht : l[i] ∈ l.take i) : 6 = keys l := by rw [← hI, keysGo_step h, if_neg (by simp [hb]), if_pos ht]
theorem keys_next {l : List Int} {i : Nat} (h : i < l.length) (hI : keysGo (l.take i) (l.drop i) = keys l) (hb : okKey l[i] = true) (ht : l[i] ∉ l.take i) : keysGo (l.take (i + 1)) (l.drop (i + 1)) = keys l := by rw [← hI, keysGo_step h, if_neg (by simp [hb]), if_neg ht]
theorem keys_end {l : List Int} {i : Nat} (h : l.length ≤ i) (hI : keysGo (l.take i) (l.drop i) = keys l) : 0 = keys l := by rw [← hI, List.drop_of_length_le h]; rfl
theorem mem_take_succ {l : List Int} {i : Nat} (h : i < l.length) (j : Int) : j ∈ l.take (i + 1) ↔ j = l[i] ∨ j ∈ l.take i := by
  rw [List.take_succ_eq_append_getElem h, List.mem_append, List.mem_singleton, or_comm]
/-- The map of what was seen. -/
def Seen {ν : Type} (m : List (Int × ν)) (l : List Int) (k : Nat) : Prop := ∀ j, (AL.get m j).isSome = true ↔ j ∈ l.take k
theorem Seen.start {ν : Type} (l : List Int) : Seen ([] : List (Int × ν)) l 0 := fun j => by simp [AL.get]
theorem Seen.next {ν : Type} {m : List (Int × ν)} {l : List Int} {k : Nat} (h : Seen m l k) (hk : k < l.length) (x : ν) : Seen (AL.set m l[k] x) l (k + 1) := fun j => by
  rw [AL.get_set, mem_take_succ hk]; split
  · simp [*]
  · simp [*, h j]
/-- Keys that are right, each once. -/
theorem keys_ok {l : List Int} : keys l = 0 ↔ (∀ k ∈ l, okKey k = true) ∧ l.Nodup := by
  have key : ∀ (l pre : List Int), keysGo pre l = 0 ↔ (∀ k ∈ l, okKey k = true) ∧ (∀ k ∈ l, k ∉ pre) ∧ l.Nodup := by
    intro l
    induction l with
    | nil => intro pre; simp [keysGo]
    | cons k l ih =>
      intro pre
      rw [keysGo]
      by_cases h1 : okKey k = false
      · rw [if_pos h1]; simp [h1]
      · rw [if_neg h1]
        by_cases h2 : k ∈ pre
        · rw [if_pos h2]; simp [h2]
        · rw [if_neg h2, ih]
          have h1' : okKey k = true := by simpa using h1
          simp only [List.mem_cons, List.mem_append, List.nodup_cons, List.mem_nil_iff]
          constructor
          · rintro ⟨a, b, c⟩
            refine ⟨by rintro j (rfl | hj); exact h1'; exact a j hj, by rintro j (rfl | hj); exact h2; exact fun hp => b j hj (.inl hp), fun hk => b k hk (.inr (.inl rfl)), c⟩
          · rintro ⟨a, b, c, d⟩
            refine ⟨fun j hj => a j (.inr hj), fun j hj hp => ?_, d⟩
            rcases hp with hp | hp | hp
            · exact b j (.inr hj) hp
            · exact c (hp ▸ hj)
            · cases hp
  rw [keys, key]; simp
theorem trace_ok {l : List Int} : trace l = 0 ↔ l.length ≤ 200 ∧ ∀ k ∈ l, okKey k = true := by
  unfold trace
  split
  · constructor
    · intro h; cases h
    · intro h; omega
  · split
    · rename_i h
      constructor
      · intro h; cases h
      · rintro ⟨_, h2⟩
        obtain ⟨x, hx, hb⟩ := List.any_eq_true.1 h
        rw [h2 x hx] at hb; cases hb
    · rename_i h1 h
      refine ⟨fun _ => ⟨by omega, fun k hk => ?_⟩, fun _ => rfl⟩
      have := List.any_eq_false.1 (Bool.not_eq_true _ ▸ h) k hk
      simpa using this
theorem trace_many {l : List Int} (h : 200 < (l.length : Int)) : trace l = 2 := if_pos (by omega)
theorem trace_bad {l : List Int} (h : (l.length : Int) ≤ 200) (h2 : l.any (fun k => !okKey k) = true) : trace l = 3 := by
  unfold trace; rw [if_neg (by omega), if_pos h2]
theorem trace_fine {l : List Int} (h : (l.length : Int) ≤ 200) (h2 : l.any (fun k => !okKey k) = false) : trace l = 0 := by
  unfold trace; rw [if_neg (by omega), if_neg (by simp [h2])]
end Lru
namespace Ref
def between (n a b : Int) : Bool := decide (a ≤ n) && decide (n ≤ b)
def sameInts (a b : List Int) : Bool := decide (a = b)
def hasInt (l : List Int) (n : Int) : Bool := decide (n ∈ l)
end Ref
end Go.Sx
