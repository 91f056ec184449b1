/- Stores with times: the plain functions. -/
import Derived.Test.YtnmbkopnopaigaaSx12M17
namespace Go.Sx
structure DEntry where
  key : Int
  value : Int
  till : Int
deriving DecidableEq
instance : Inhabited DEntry := ⟨⟨0, 0, 0⟩⟩
def tEntry : Ty DEntry := ⟨3, fun c => [.int .i64 c.key, .int .i64 c.value, .int .i64 c.till], fun _ => rfl⟩
structure DStore where
  life : Int
  entries : List DEntry
deriving DecidableEq
/-- the first place that isn't below, in a list where all that is below stands ahead -/
def lowF {α : Type} (f : α → Int) (l : List α) : Nat := (l.takeWhile fun x => decide (f x < 0)).length
structure LowI {α : Type} (f : α → Int) (l : List α) (i j : Int) : Prop where
  i0 : 0 ≤ i
  ij : i ≤ j
  jl : j ≤ (l.length : Int)
  below : ∀ k (h : k < l.length), (k : Int) < i → f l[k] < 0
  above : ∀ k (h : k < l.length), j ≤ (k : Int) → 0 ≤ f l[k]
/-- all that is below stands ahead -/
def Split {α : Type} (f : α → Int) (l : List α) : Prop := ∀ a b (hb : b < l.length) (h : a < b), f l[b] < 0 → f (l[a]'(by omega)) < 0
theorem lowF_eq {α : Type} {f : α → Int} {l : List α} {p : Nat} (hp : p ≤ l.length) (h1 : ∀ k (h : k < l.length), k < p → f l[k] < 0) (h2 : ∀ h : p < l.length, 0 ≤ f l[p]) : lowF f l = p := by
  unfold lowF
  have e : l = l.take p ++ l.drop p := (List.take_append_drop p l).symm
  have h3 : ∀ x ∈ l.take p, decide (f x < 0) = true := fun x hx => by
    obtain ⟨k, hk, rfl⟩ := List.getElem_of_mem hx
    simp only [List.length_take] at hk
    rw [List.getElem_take]; exact decide_eq_true (h1 k (by omega) (by omega))
  conv => lhs; rw [e]
  rw [List.takeWhile_append_of_pos h3]
  have h4 : (l.drop p).takeWhile (fun x => decide (f x < 0)) = [] := by
    by_cases hl : p < l.length
    · rw [List.drop_eq_getElem_cons hl, List.takeWhile_cons, if_neg]
      have := h2 hl; simp; omega
    · rw [List.drop_of_length_le (by omega)]; rfl
  rw [h4, List.append_nil, List.length_take]; omega
theorem lowF_le {α : Type} (f : α → Int) (l : List α) : lowF f l ≤ l.length := by
  unfold lowF; exact (List.takeWhile_sublist _).length_le
theorem LowI.start {α : Type} (f : α → Int) (l : List α) : LowI f l 0 l.length := ⟨Int.le_refl _, by omega, Int.le_refl _, fun k h h2 => by omega, fun k h h2 => by omega⟩
theorem LowI.up {α : Type} {f : α → Int} {l : List α} {i j h : Int} (hI : LowI f l i j) (hs : Split f l) (h1 : i ≤ h) (h2 : h < j) (hl : h.toNat < l.length) (hf : f l[h.toNat] < 0) : LowI f l (h + 1) j :=
  ⟨by have := hI.i0; omega, by omega, hI.jl, fun k hk hlt => by
    by_cases e : k = h.toNat
    · subst e; exact hf
    · exact hs k h.toNat hl (by have := hI.i0; omega) hf, hI.above⟩
theorem LowI.down {α : Type} {f : α → Int} {l : List α} {i j h : Int} (hI : LowI f l i j) (hs : Split f l) (h1 : i ≤ h) (h2 : h < j) (hl : h.toNat < l.length) (hf : 0 ≤ f l[h.toNat]) : LowI f l i h :=
  ⟨hI.i0, h1, by have := hI.jl; omega, hI.below, fun k hk hle => by
    by_cases e : k = h.toNat
    · subst e; exact hf
    · rcases Int.lt_or_le (f l[k]) 0 with h3 | h3
      · have := hs h.toNat k hk (by have := hI.i0; omega) h3; omega
      · exact h3⟩
theorem LowI.done {α : Type} {f : α → Int} {l : List α} {i j : Int} (hI : LowI f l i j) (h : j ≤ i) : i = (lowF f l : Int) := by
  have h0 := hI.i0; have h1 := hI.ij; have h2 := hI.jl
  rw [lowF_eq (p := i.toNat) (by omega) (fun k hk hlt => hI.below k hk (by omega)) (fun hl => hI.above _ hl (by omega))]; omega
namespace Exp
def okEntry (x : DEntry) : Bool := Lru.okKey x.key && decide (-1099511627776 ≤ x.value) && decide (x.value ≤ 1099511627776) && decide (0 ≤ x.till) && decide (x.till ≤ 1100585369600)
def checkGo (last : Int) : List DEntry → Int
  | [] => 0
  | x :: l => if okEntry x = false then 3 else if x.key ≤ last then 4 else checkGo x.key l
def check (s : DStore) : Int := if s.life < 1 ∨ 1073741824 < s.life then 3 else if 40 < s.entries.length then 2 else checkGo (-1) s.entries
structure Ok (s : DStore) : Prop where
  life : 1 ≤ s.life ∧ s.life ≤ 1073741824
  len : s.entries.length ≤ 40
  entry : ∀ x ∈ s.entries, okEntry x = true
  sorted : s.entries.Pairwise fun a b => a.key < b.key
theorem okEntry_iff {x : DEntry} : okEntry x = true ↔ (0 ≤ x.key ∧ x.key ≤ 1048576) ∧ (-1099511627776 ≤ x.value ∧ x.value ≤ 1099511627776) ∧ (0 ≤ x.till ∧ x.till ≤ 1100585369600) := by
  simp [okEntry, Lru.okKey, and_assoc]
theorem checkGo_ok : ∀ (l : List DEntry) (last : Int), checkGo last l = 0 ↔ (∀ x ∈ l, okEntry x = true) ∧ (∀ x ∈ l, last < x.key) ∧ l.Pairwise fun a b => a.key < b.key
  | [], last => by simp [checkGo]
  | x :: l, last => by
    rw [checkGo]
    by_cases h1 : okEntry x = false
    · rw [if_pos h1]; simp [h1]
    · rw [if_neg h1]
      by_cases h2 : x.key ≤ last
      · rw [if_pos h2]
        refine ⟨fun h => absurd h (by decide), fun h => ?_⟩
        have := h.2.1 x (by simp); omega
      · rw [if_neg h2, checkGo_ok l]
        have h1' : okEntry x = true := by simpa using h1
        simp only [List.mem_cons, List.pairwise_cons]
        constructor
        · rintro ⟨a, b, c⟩
          refine ⟨by rintro y (rfl | hy); exact h1'; exact a y hy, ?_, b, c⟩
          rintro y (rfl | hy)
          · omega
          · have := b y hy; omega
        · rintro ⟨a, b, c, d⟩
          exact ⟨fun y hy => a y (.inr hy), c, d⟩
theorem check_ok {s : DStore} : check s = 0 ↔ Ok s := by
  unfold check
  constructor
  · intro e
    split at e
    · cases e
    · split at e
      · cases e
      · have := (checkGo_ok _ _).1 e
        exact ⟨by omega, by omega, this.1, this.2.2⟩
  · rintro ⟨a, b, c, d⟩
    rw [if_neg (by omega), if_neg (by omega)]
    exact (checkGo_ok _ _).2 ⟨c, fun x hx => by have := okEntry_iff.1 (c x hx); omega, d⟩
def live (now : Int) (l : List DEntry) : List DEntry := l.filter fun x => decide (now < x.till)
def over (now : Int) (l : List DEntry) : List Int := (l.filter fun x => decide (x.till ≤ now)).map (·.key)
def okNow (now : Int) : Bool := decide (0 ≤ now) && decide (now ≤ 1099511627776)
def nowErr (s : DStore) (now : Int) : Int := if check s = 0 then (if okNow now then 0 else 3) else check s
def zero : DStore := ⟨0, []⟩
def sweep (s : DStore) (now : Int) : DStore × List Int := if nowErr s now = 0 then (⟨s.life, live now s.entries⟩, over now s.entries) else (zero, [])
def getErr (s : DStore) (key now : Int) : Int := if nowErr s now = 0 then (if Lru.okKey key then 0 else 3) else nowErr s now
def getGo (l : List DEntry) (key now : Int) : Int × Bool := match (live now l).find? (fun x => x.key == key) with | some x => (x.value, true) | none => (0, false)
def get (s : DStore) (key now : Int) : Int × Bool := if getErr s key now = 0 then getGo s.entries key now else (0, false)
def okValue (n : Int) : Bool := decide (-1099511627776 ≤ n) && decide (n ≤ 1099511627776)
def putGo (l : List DEntry) (x : DEntry) : List DEntry := l.filter (fun y => decide (y.key < x.key)) ++ x :: l.filter (fun y => decide (x.key < y.key))
def putErr (s : DStore) (key n now : Int) : Int := if getErr s key now = 0 then (if okValue n then (if 40 < (putGo (live now s.entries) ⟨key, n, now + s.life⟩).length then 8 else 0) else 3) else getErr s key now
def put (s : DStore) (key n now : Int) : DStore := if putErr s key n now = 0 then ⟨s.life, putGo (live now s.entries) ⟨key, n, now + s.life⟩⟩ else zero
def least : List DEntry → Int
  | [] => 0
  | x :: l => l.foldl (fun m y => min m y.till) x.till
def nextErr (s : DStore) : Int := if check s = 0 then (if s.entries.length = 0 then 5 else 0) else check s
def next (s : DStore) : Int := if nextErr s = 0 then least s.entries else 0
end Exp
end Go.Sx

/- Elements by number; numbers compared. -/
namespace Go.Sx
theorem getd_at {α : Type} {L : List α} {i : Nat} (h : i < L.length) (d : α) : L[i] = L.getD i d := by rw [List.getD_eq_getElem?_getD, List.getElem?_eq_getElem h]; rfl
def cmpI (x y : Int) : Int := if x < y then -1 else if y < x then 1 else 0
theorem cmpI_neg {x y : Int} : cmpI x y < 0 ↔ x < y := by unfold cmpI; split; simp [*]; split <;> simp <;> omega
theorem cmpI_zero {x y : Int} : cmpI x y = 0 ↔ x = y := by unfold cmpI; split; simp; omega; split <;> simp <;> omega
theorem cmp_lt {x y : Int} (h : x < y) : -1 = cmpI x y := by unfold cmpI; rw [if_pos h]
theorem cmp_gt {x y : Int} (h1 : y ≤ x) (h : y < x) : 1 = cmpI x y := by unfold cmpI; rw [if_neg (by omega), if_pos h]
theorem cmp_eq {x y : Int} (h1 : y ≤ x) (h2 : x ≤ y) : 0 = cmpI x y := by unfold cmpI; rw [if_neg (by omega), if_neg (by omega)]
end Go.Sx

/- Stores with times: searching, sweeping, storing; the loops of the program and of the reference. -/
namespace Go.Sx
/-- where the halving search ends -/
def hitF {α : Type} [Inhabited α] (f : α → Int) (l : List α) : Bool := decide ((lowF f l : Int) < (l.length : Int)) && (f (l.getD (lowF f l) default) == 0)
theorem low_spec {α : Type} {f : α → Int} {l : List α} : (∀ k (h : k < l.length), k < lowF f l → f l[k] < 0) ∧ ∀ h : lowF f l < l.length, 0 ≤ f l[lowF f l] := by
  unfold lowF
  induction l with
  | nil => simp
  | cons x l ih =>
    rw [List.takeWhile_cons]
    by_cases h : f x < 0
    · rw [if_pos (by simp [h])]
      refine ⟨fun k hk hlt => ?_, fun hk => ?_⟩
      · cases k with
        | zero => exact h
        | succ k => exact ih.1 k (by simpa using hk) (by simpa using hlt)
      · exact ih.2 (by simpa using hk)
    · rw [if_neg (by simpa using h)]
      exact ⟨fun k hk hlt => by simp at hlt, fun hk => by simp at hk ⊢; omega⟩
theorem low_above {α : Type} {f : α → Int} {l : List α} (hs : Split f l) {k : Nat} (hk : k < l.length) (h : lowF f l ≤ k) : 0 ≤ f l[k] := by
  have h2 := low_spec (f := f) (l := l)
  by_cases e : lowF f l = k
  · subst e; exact h2.2 hk
  · rcases Int.lt_or_le (f l[k]) 0 with h3 | h3
    · have := hs (lowF f l) k hk (by omega) h3
      have := h2.2 (by omega); omega
    · exact h3
/-- the least one: the first of the least -/
def minTo {α : Type} [Inhabited α] (f : α → α → Int) (l : List α) : Nat → α
  | 0 => l.getD 0 default
  | i + 1 => if f (l.getD (i + 1) default) (minTo f l i) < 0 then l.getD (i + 1) default else minTo f l i
def minF {α : Type} [Inhabited α] (f : α → α → Int) (l : List α) : α := minTo f l (l.length - 1)
theorem half_eq {i j : Int} (h0 : 0 ≤ i) (h1 : i ≤ j) (h2 : j ≤ 140737488355328) : IntKind.i64.wrap ((shrU (toU (i + j)) 1).toNat : Int) = (i + j) / 2 := by
  have e : (toU (i + j)).toNat = (i + j).toNat := by
    have := wrapU_int (i + j)
    have h3 := wrapU_lt (m := (i + j).toNat) (by omega)
    rw [show (((i + j).toNat : Nat) : Int) = i + j by omega] at h3
    omega
  have e2 : (shrU (toU (i + j)) 1).toNat = (i + j).toNat / 2 := by rw [shrU_toNat, e]; rfl
  rw [e2, wrap_i64 (by omega)]; omega
namespace Exp
def le_ (l : List DEntry) : Prop := l.Pairwise fun a b => a.key < b.key
theorem sorted_at {l : List DEntry} (h : le_ l) {i j : Nat} (hi : i < l.length) (hj : j < l.length) (hlt : i < j) : l[i].key < l[j].key := List.pairwise_iff_getElem.1 h i j hi hj hlt
theorem same_at {l : List DEntry} (h : le_ l) {x y : DEntry} (hx : x ∈ l) (hy : y ∈ l) (e : x.key = y.key) : x = y := by
  obtain ⟨i, hi, rfl⟩ := List.getElem_of_mem hx
  obtain ⟨j, hj, rfl⟩ := List.getElem_of_mem hy
  rcases Nat.lt_trichotomy i j with h1 | h1 | h1
  · have := sorted_at h hi hj h1; omega
  · subst h1; rfl
  · have := sorted_at h hj hi h1; omega
theorem split_key {l : List DEntry} (h : le_ l) (key : Int) : Split (fun x : DEntry => cmpI x.key key) l := by
  intro a b hb hlt hn
  simp only [cmpI_neg] at hn ⊢
  have := sorted_at h (show a < l.length by omega) hb hlt; omega
abbrev findAt (l : List DEntry) (key : Int) : Nat := lowF (fun x : DEntry => cmpI x.key key) l
abbrev findIs (l : List DEntry) (key : Int) : Bool := hitF (fun x : DEntry => cmpI x.key key) l
theorem findAt_le (l : List DEntry) (key : Int) : findAt l key ≤ l.length := lowF_le _ _
theorem find_below {l : List DEntry} {key : Int} {k : Nat} (hk : k < l.length) (h : k < findAt l key) : l[k].key < key := cmpI_neg.1 ((low_spec (f := fun x : DEntry => cmpI x.key key)).1 k hk h)
theorem find_above {l : List DEntry} (hs : le_ l) {key : Int} {k : Nat} (hk : k < l.length) (h : findAt l key ≤ k) : key ≤ l[k].key := by
  have := low_above (split_key hs key) hk h
  rcases Int.lt_or_le l[k].key key with h2 | h2
  · have := cmpI_neg.2 h2; omega
  · exact h2
theorem findIs_iff {l : List DEntry} {key : Int} : findIs l key = true ↔ ∃ h : findAt l key < l.length, l[findAt l key].key = key := by
  simp only [findIs, hitF, Bool.and_eq_true, decide_eq_true_eq, beq_iff_eq, cmpI_zero]
  constructor
  · rintro ⟨h1, h2⟩
    have h3 : findAt l key < l.length := Int.ofNat_lt.1 h1
    exact ⟨h3, by rw [getd_at h3 default]; exact h2⟩
  · rintro ⟨h1, h2⟩
    exact ⟨Int.ofNat_lt.2 h1, by rw [← getd_at h1 default]; exact h2⟩
theorem findIs_no {l : List DEntry} (hs : le_ l) {key : Int} (h : findIs l key = false) : ∀ x ∈ l, x.key ≠ key := by
  intro x hx e
  obtain ⟨i, hi, rfl⟩ := List.getElem_of_mem hx
  have h1 : ¬ findIs l key = true := by simp [h]
  apply h1
  rw [findIs_iff]
  have h2 : findAt l key ≤ i := by
    rcases Nat.lt_or_ge i (findAt l key) with h3 | h3
    · have := find_below hi h3; omega
    · exact h3
  have h3 := find_above hs (show findAt l key < l.length by omega) (Nat.le_refl _)
  refine ⟨by omega, ?_⟩
  rcases Nat.eq_or_lt_of_le h2 with h4 | h4
  · simp only [h4]; exact e
  · have := sorted_at hs (show findAt l key < l.length by omega) hi h4; omega
theorem live_sorted {l : List DEntry} (h : le_ l) (now : Int) : le_ (live now l) := List.Pairwise.filter _ h
theorem mem_live {l : List DEntry} {now : Int} {x : DEntry} : x ∈ live now l ↔ x ∈ l ∧ now < x.till := by simp [live]
theorem getGo_some {l : List DEntry} (hs : le_ l) {now : Int} {x : DEntry} (hx : x ∈ l) (ht : now < x.till) : getGo l x.key now = (x.value, true) := by
  unfold getGo
  cases e : (live now l).find? (fun y => y.key == x.key) with
  | none =>
    have := List.find?_eq_none.1 e x (mem_live.2 ⟨hx, ht⟩)
    simp at this
  | some y =>
    have h1 := List.mem_of_find?_eq_some e
    have h2 := List.find?_some e
    have := same_at hs (mem_live.1 h1).1 hx (by simpa using h2)
    subst this; rfl
theorem getGo_none {l : List DEntry} {key now : Int} (h : ∀ x ∈ l, x.key = key → x.till ≤ now) : getGo l key now = (0, false) := by
  unfold getGo
  have : (live now l).find? (fun y => y.key == key) = none := by
    rw [List.find?_eq_none]; intro x hx
    have h1 := mem_live.1 hx
    simp only [beq_iff_eq]; intro e
    have := h x h1.1 e; omega
  rw [this]
theorem getGo_same {l m : List DEntry} (hl : le_ l) (hm : le_ m) {key now : Int} (h : ∀ x, x.key = key → now < x.till → (x ∈ l ↔ x ∈ m)) : getGo l key now = getGo m key now := by
  by_cases e : ∃ x ∈ l, x.key = key ∧ now < x.till
  · obtain ⟨x, hx, rfl, ht⟩ := e
    rw [getGo_some hl hx ht, getGo_some hm ((h x rfl ht).1 hx) ht]
  · rw [getGo_none (l := l) fun x hx hk => ?_, getGo_none (l := m) fun x hx hk => ?_]
    · rcases Int.lt_or_le now x.till with h1 | h1
      · exact absurd ⟨x, (h x hk h1).2 hx, hk, h1⟩ e
      · exact h1
    · rcases Int.lt_or_le now x.till with h1 | h1
      · exact absurd ⟨x, hx, hk, h1⟩ e
      · exact h1
/- Check -/
theorem entry_bad {x : DEntry} (h : ((Lru.okKey x.key = false ∨ okValue x.value = false) ∨ x.till < 0) ∨ 1100585369600 < x.till) : okEntry x = false := by
  by_cases e : okEntry x = true
  · have := okEntry_iff.1 e
    simp [Lru.okKey, okValue] at h; omega
  · simpa using e
theorem entry_fine {x : DEntry} (h : ((Lru.okKey x.key = true ∧ okValue x.value = true) ∧ 0 ≤ x.till) ∧ x.till ≤ 1100585369600) : okEntry x = true := by
  rw [okEntry_iff]; simp [Lru.okKey, okValue] at h; omega
structure CkI (l : List DEntry) (last : Int) (k : Nat) : Prop where
  le : k ≤ l.length
  go : checkGo last (l.drop k) = checkGo (-1) l
theorem CkI.start (l : List DEntry) : CkI l (-1) 0 := ⟨Nat.zero_le _, rfl⟩
theorem CkI.step {l : List DEntry} {last : Int} {k : Nat} (h : CkI l last k) (hk : k < l.length) : checkGo (-1) l = if okEntry l[k] = false then 3 else if l[k].key ≤ last then 4 else checkGo l[k].key (l.drop (k + 1)) := by
  rw [← h.go, List.drop_eq_getElem_cons hk, checkGo]
theorem CkI.bad {l : List DEntry} {last : Int} {k : Nat} (h : CkI l last k) (hk : k < l.length) (hb : okEntry l[k] = false) : 3 = checkGo (-1) l := by rw [h.step hk, if_pos hb]
theorem CkI.low {l : List DEntry} {last : Int} {k : Nat} (h : CkI l last k) (hk : k < l.length) (hb : okEntry l[k] = true) (h2 : l[k].key ≤ last) : 4 = checkGo (-1) l := by rw [h.step hk, if_neg (by simp [hb]), if_pos h2]
theorem CkI.next {l : List DEntry} {last : Int} {k : Nat} (h : CkI l last k) (hk : k < l.length) (hb : okEntry l[k] = true) (h2 : last < l[k].key) : CkI l l[k].key (k + 1) :=
  ⟨by omega, by have := h.step hk; rw [if_neg (by simp [hb]), if_neg (by omega)] at this; exact this.symm⟩
theorem CkI.done {l : List DEntry} {last : Int} {k : Nat} (h : CkI l last k) (hk : (l.length : Int) ≤ k) : 0 = checkGo (-1) l := by rw [← h.go, List.drop_of_length_le (by omega)]; rfl
theorem chk1 {s : DStore} (h : s.life < 1 ∨ 1073741824 < s.life) : 3 = check s := by unfold check; rw [if_pos h]
theorem chk2 {s : DStore} (h : 1 ≤ s.life ∧ s.life ≤ 1073741824) (h2 : 40 < (s.entries.length : Int)) : 2 = check s := by unfold check; rw [if_neg (by omega), if_pos (by omega)]
theorem chk3 {s : DStore} {e : Int} (h : 1 ≤ s.life ∧ s.life ≤ 1073741824) (h2 : (s.entries.length : Int) ≤ 40) (h3 : e = checkGo (-1) s.entries) : e = check s := by unfold check; rw [if_neg (by omega), if_neg (by omega)]; exact h3
/-- the key ahead (the reference) -/
def lastOf (l : List DEntry) (i : Nat) : Int := if i = 0 then -1 else (l.getD (i - 1) default).key
theorem CkI.refLow {l : List DEntry} {i j : Nat} (h : CkI l (lastOf l i) i) (hi : i < l.length) (hb : okEntry l[i] = true) (h0 : 0 < i) (hj : j = i - 1) (hjl : j < l.length) (h2 : l[i].key ≤ l[j].key) : 4 = checkGo (-1) l := by
  refine h.low hi hb ?_
  subst hj; rw [lastOf, if_neg (by omega), ← getd_at hjl default]; exact h2
theorem CkI.refNext {l : List DEntry} {i j : Nat} (h : CkI l (lastOf l i) i) (hi : i < l.length) (hb : okEntry l[i] = true) (hj : j = i - 1) (hjl : j < l.length) (h2 : i = 0 ∨ l[j].key < l[i].key) : CkI l (lastOf l (i + 1)) (i + 1) := by
  have e : lastOf l (i + 1) = l[i].key := by rw [lastOf, if_neg (by omega), Nat.add_sub_cancel, ← getd_at hi default]
  rw [e]
  refine h.next hi hb ?_
  rw [lastOf]; split
  · have := (okEntry_iff.1 hb).1; omega
  · subst hj; rw [← getd_at hjl default]; omega
theorem ref_bad {x : DEntry} (h : (Ref.between x.key 0 1048576 = false ∨ Ref.between x.value (-1099511627776) 1099511627776 = false) ∨ Ref.between x.till 0 1100585369600 = false) : okEntry x = false := by
  by_cases e : okEntry x = true
  · have := okEntry_iff.1 e
    simp [Ref.between] at h; omega
  · simpa using e
theorem ref_fine {x : DEntry} (h : (Ref.between x.key 0 1048576 = true ∧ Ref.between x.value (-1099511627776) 1099511627776 = true) ∧ Ref.between x.till 0 1100585369600 = true) : okEntry x = true := by
  rw [okEntry_iff]; simp [Ref.between] at h; omega
/- sweeping -/
structure SwI (s : DStore) (now : Int) (o : DStore) (gone : List Int) (k : Nat) : Prop where
  le : k ≤ s.entries.length
  life : o.life = s.life
  out : o.entries = live now (s.entries.take k)
  gone_ : gone = over now (s.entries.take k)
theorem SwI.start (s : DStore) (now : Int) : SwI s now ⟨s.life, []⟩ [] 0 := ⟨Nat.zero_le _, rfl, rfl, rfl⟩
theorem SwI.lens {s o : DStore} {now : Int} {gone : List Int} {k : Nat} (h : SwI s now o gone k) : o.entries.length ≤ k ∧ gone.length ≤ k := by
  rw [h.out, h.gone_, live, over, List.length_map]
  have h1 := List.length_filter_le (fun x : DEntry => decide (now < x.till)) (s.entries.take k)
  have h2 := List.length_filter_le (fun x : DEntry => decide (x.till ≤ now)) (s.entries.take k)
  rw [List.length_take] at h1 h2; omega
theorem SwI.keep {s o : DStore} {now : Int} {gone : List Int} {k : Nat} (h : SwI s now o gone k) (hk : k < s.entries.length) (ht : now < s.entries[k].till) : SwI s now ⟨o.life, o.entries ++ [s.entries[k]]⟩ gone (k + 1) := by
  refine ⟨by omega, h.life, ?_, ?_⟩
  · rw [List.take_succ_eq_append_getElem hk, live, List.filter_append, h.out, live]; simp [ht]
  · rw [List.take_succ_eq_append_getElem hk, over, List.filter_append, List.map_append, h.gone_, over]; simp; omega
theorem SwI.drop {s o : DStore} {now : Int} {gone : List Int} {k : Nat} (h : SwI s now o gone k) (hk : k < s.entries.length) (ht : s.entries[k].till ≤ now) : SwI s now o (gone ++ [s.entries[k].key]) (k + 1) := by
  refine ⟨by omega, h.life, ?_, ?_⟩
  · rw [List.take_succ_eq_append_getElem hk, live, List.filter_append, h.out, live]; simp; omega
  · rw [List.take_succ_eq_append_getElem hk, over, List.filter_append, List.map_append, h.gone_, over]; simp [ht]
theorem store_eq {a : DStore} {n : Int} {l : List DEntry} (h : a.life = n) (h2 : a.entries = l) : a = ⟨n, l⟩ := by cases a; simp_all
theorem SwI.done {s o : DStore} {now : Int} {gone : List Int} {k : Nat} (h : SwI s now o gone k) (hk : (s.entries.length : Int) ≤ k) : o = ⟨s.life, live now s.entries⟩ ∧ gone = over now s.entries := by
  have e : s.entries.take k = s.entries := List.take_of_length_le (by omega)
  refine ⟨store_eq h.life (by rw [h.out, e]), by rw [h.gone_, e]⟩
/- errors -/
theorem now_cases (s : DStore) (now : Int) : (check s ≠ 0 ∧ nowErr s now = check s) ∨ (check s = 0 ∧ okNow now = false ∧ nowErr s now = 3) ∨ (check s = 0 ∧ okNow now = true ∧ nowErr s now = 0) := by
  unfold nowErr
  by_cases h : check s = 0
  · rw [if_pos h]
    by_cases h2 : okNow now = true
    · exact .inr (.inr ⟨h, h2, if_pos h2⟩)
    · exact .inr (.inl ⟨h, by simpa using h2, if_neg h2⟩)
  · exact .inl ⟨h, if_neg h⟩
theorem now_ok {s : DStore} {now : Int} (h : nowErr s now = 0) : Ok s ∧ 0 ≤ now ∧ now ≤ 1099511627776 := by
  rcases now_cases s now with ⟨a, b⟩ | ⟨a, b, d⟩ | ⟨a, b, d⟩
  · exact absurd (b.symm.trans h) a
  · rw [h] at d; exact absurd d (by decide)
  · simp [okNow] at b; exact ⟨check_ok.1 a, b.1, b.2⟩
theorem get_ok {s : DStore} {key now : Int} (h : getErr s key now = 0) : nowErr s now = 0 ∧ Lru.okKey key = true := by
  unfold getErr at h
  split at h
  · rename_i h1; split at h
    · rename_i h2; exact ⟨h1, h2⟩
    · exact absurd h (by decide)
  · rename_i h1; exact absurd h h1
theorem put_ok {s : DStore} {key n now : Int} (h : putErr s key n now = 0) : getErr s key now = 0 ∧ okValue n = true ∧ (putGo (live now s.entries) ⟨key, n, now + s.life⟩).length ≤ 40 := by
  unfold putErr at h
  split at h
  · rename_i h1; split at h
    · rename_i h2; split at h
      · exact absurd h (by decide)
      · exact ⟨h1, h2, by omega⟩
    · exact absurd h (by decide)
  · rename_i h1; exact absurd h h1
theorem sweep1 {s : DStore} {now : Int} (h : nowErr s now ≠ 0) : sweep s now = (zero, []) := if_neg h
theorem sweep2 {s : DStore} {now : Int} (h : nowErr s now = 0) : sweep s now = (⟨s.life, live now s.entries⟩, over now s.entries) := if_pos h
/- getting -/
theorem got {l : List DEntry} (hs : le_ l) {key now : Int} (h1 : findIs l key = true) (hl : findAt l key < l.length) (ht : now < l[findAt l key].till) : getGo l key now = (l[findAt l key].value, true) := by
  obtain ⟨h2, e⟩ := findIs_iff.1 h1
  have := getGo_some hs (List.getElem_mem hl) ht
  rw [e] at this; exact this
theorem got_no {l : List DEntry} (hs : le_ l) {key now : Int} (h : findIs l key = false ∨ ∀ hl : findAt l key < l.length, l[findAt l key].till ≤ now) : getGo l key now = (0, false) := by
  by_cases h1 : findIs l key = true
  · obtain ⟨h2, e⟩ := findIs_iff.1 h1
    have h3 := (h.resolve_left (by simp [h1])) h2
    refine getGo_none fun x hx hk => ?_
    have := same_at hs hx (List.getElem_mem h2) (by rw [hk, e])
    rw [this]; exact h3
  · exact getGo_none fun x hx hk => absurd hk (findIs_no hs (by simpa using h1) x hx)
theorem get1 {s : DStore} {key now : Int} (h : getErr s key now ≠ 0) : get s key now = (0, false) := if_neg h
theorem get2 {s : DStore} {key now : Int} (h : getErr s key now = 0) : get s key now = getGo s.entries key now := if_pos h
/- storing -/
theorem below_take {l : List DEntry} (hs : le_ l) (key : Int) : l.filter (fun y => decide (y.key < key)) = l.take (findAt l key) := by
  conv => lhs; rw [← List.take_append_drop (findAt l key) l, List.filter_append]
  have h1 : (l.take (findAt l key)).filter (fun y => decide (y.key < key)) = l.take (findAt l key) := by
    rw [List.filter_eq_self]; intro x hx
    obtain ⟨i, hi, rfl⟩ := List.getElem_of_mem hx
    rw [List.length_take] at hi; rw [List.getElem_take]
    exact decide_eq_true (find_below (by omega) (by omega))
  have h2 : (l.drop (findAt l key)).filter (fun y => decide (y.key < key)) = [] := by
    rw [List.filter_eq_nil_iff]; intro x hx
    obtain ⟨i, hi, rfl⟩ := List.getElem_of_mem hx
    rw [List.length_drop] at hi; rw [List.getElem_drop]
    have := find_above hs (key := key) (show findAt l key + i < l.length by omega) (by omega)
    simp; omega
  rw [h1, h2, List.append_nil]
theorem above_drop {l : List DEntry} (hs : le_ l) (key : Int) : l.filter (fun y => decide (key < y.key)) = l.drop (findAt l key + (if findIs l key = true then 1 else 0)) := by
  have hle := findAt_le l key
  generalize hn : findAt l key + (if findIs l key = true then 1 else 0) = n
  have hcase : (findIs l key = true ∧ n = findAt l key + 1) ∨ (findIs l key = false ∧ n = findAt l key) := by
    cases h : findIs l key
    · right; rw [h] at hn; exact ⟨rfl, by simpa using hn.symm⟩
    · left; rw [h] at hn; exact ⟨rfl, by simpa using hn.symm⟩
  conv => lhs; rw [← List.take_append_drop n l, List.filter_append]
  have h1 : (l.take n).filter (fun y => decide (key < y.key)) = [] := by
    rw [List.filter_eq_nil_iff]; intro x hx
    obtain ⟨i, hi, rfl⟩ := List.getElem_of_mem hx
    rw [List.length_take] at hi; rw [List.getElem_take]
    simp only [decide_eq_true_eq]
    by_cases h : i < findAt l key
    · have := find_below (show i < l.length by omega) h; omega
    · rcases hcase with ⟨h2, h3⟩ | ⟨h2, h3⟩
      · obtain ⟨h4, e⟩ := findIs_iff.1 h2
        have : i = findAt l key := by omega
        subst this; omega
      · omega
  have h2 : (l.drop n).filter (fun y => decide (key < y.key)) = l.drop n := by
    rw [List.filter_eq_self]; intro x hx
    obtain ⟨i, hi, rfl⟩ := List.getElem_of_mem hx
    rw [List.length_drop] at hi; rw [List.getElem_drop]
    apply decide_eq_true
    rcases hcase with ⟨h2, h3⟩ | ⟨h2, h3⟩
    · obtain ⟨h4, e⟩ := findIs_iff.1 h2
      have := sorted_at hs h4 (show n + i < l.length by omega) (by omega); omega
    · have h5 := find_above hs (key := key) (show n + i < l.length by omega) (by omega)
      have h6 := findIs_no hs h2 _ (List.getElem_mem (show n + i < l.length by omega)); omega
  rw [h1, h2, List.nil_append]
theorem put_is {l : List DEntry} (hs : le_ l) {x : DEntry} (h : findIs l x.key = true) : l.set (findAt l x.key) x = putGo l x := by
  obtain ⟨h1, _⟩ := findIs_iff.1 h
  rw [putGo, below_take hs, above_drop hs, if_pos h, List.set_eq_take_append_cons_drop, if_pos h1]
theorem put_not {l : List DEntry} (hs : le_ l) {x : DEntry} (h : findIs l x.key = false) : l.take (findAt l x.key) ++ [x] ++ l.drop (findAt l x.key) = putGo l x := by
  rw [putGo, below_take hs, above_drop hs, if_neg (by simp [h]), List.append_assoc]; rfl
theorem putGo_len {l : List DEntry} (hs : le_ l) (x : DEntry) : (putGo l x).length = if findIs l x.key = true then l.length else l.length + 1 := by
  cases h : findIs l x.key
  · rw [← put_not hs h]
    have := findAt_le l x.key
    simp; omega
  · rw [← put_is hs h]; simp
theorem mem_put {l : List DEntry} {x y : DEntry} : y ∈ putGo l x ↔ y = x ∨ (y ∈ l ∧ y.key ≠ x.key) := by
  simp only [putGo, List.mem_append, List.mem_cons, List.mem_filter, decide_eq_true_eq]
  constructor
  · rintro (⟨h1, h2⟩ | h | ⟨h1, h2⟩)
    · exact .inr ⟨h1, by omega⟩
    · exact .inl h
    · exact .inr ⟨h1, by omega⟩
  · rintro (h | ⟨h1, h2⟩)
    · exact .inr (.inl h)
    · rcases Int.lt_or_gt_of_ne h2 with h3 | h3
      · exact .inl ⟨h1, h3⟩
      · exact .inr (.inr ⟨h1, h3⟩)
theorem put_sorted {l : List DEntry} (hs : le_ l) (x : DEntry) : le_ (putGo l x) := by
  unfold le_ putGo
  rw [List.pairwise_append]
  refine ⟨List.Pairwise.filter _ hs, ?_, ?_⟩
  · rw [List.pairwise_cons]
    exact ⟨fun y hy => by simpa using (List.mem_filter.1 hy).2, List.Pairwise.filter _ hs⟩
  · intro a ha b hb
    have h1 := (List.mem_filter.1 ha).2
    simp only [decide_eq_true_eq] at h1
    rcases List.mem_cons.1 hb with rfl | hb
    · exact h1
    · have h2 := (List.mem_filter.1 hb).2
      simp only [decide_eq_true_eq] at h2; omega
end Exp
end Go.Sx
namespace Go.Sx
theorem hit_eq {α : Type} [Inhabited α] {f : α → Int} {l : List α} {i : Int} (h : i = (lowF f l : Int)) : (decide (i < (l.length : Int)) && (f (l.getD i.toNat default) == 0)) = hitF f l := by subst h; rfl
theorem min_yes {α : Type} [Inhabited α] {f : α → α → Int} {l : List α} {m : α} {i : Nat} (h : m = minTo f l (i - 1)) (h1 : 1 ≤ i) (hlt : f (l.getD i default) m < 0) : l.getD i default = minTo f l (i + 1 - 1) := by
  obtain ⟨j, rfl⟩ := Nat.exists_eq_add_of_le' h1
  rw [Nat.add_sub_cancel] at h ⊢
  rw [minTo, if_pos (by rw [← h]; exact hlt)]
theorem min_no {α : Type} [Inhabited α] {f : α → α → Int} {l : List α} {m : α} {i : Nat} (h : m = minTo f l (i - 1)) (h1 : 1 ≤ i) (hlt : 0 ≤ f (l.getD i default) m) : m = minTo f l (i + 1 - 1) := by
  obtain ⟨j, rfl⟩ := Nat.exists_eq_add_of_le' h1
  rw [Nat.add_sub_cancel] at h ⊢
  rw [minTo, if_neg (by rw [← h]; omega), h]
theorem min_done {α : Type} [Inhabited α] {f : α → α → Int} {l : List α} {m : α} {i : Nat} (h : m = minTo f l (i - 1)) (h1 : (l.length : Int) ≤ i) (h2 : i ≤ l.length) : m = minF f l := by
  rw [h, minF, show i = l.length by omega]
end Go.Sx
