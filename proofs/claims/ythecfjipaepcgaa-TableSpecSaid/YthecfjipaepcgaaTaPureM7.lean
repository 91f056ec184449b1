/- Hash tables: the plain functions, and the loops of the program. -/
import Derived.Test.YthecfjipaepcgaaHaPureM6
import Derived.Test.YthecfjipaepcgaaSx12M17
import Derived.Test.YthecfjipaepcgaaTaF
namespace Go.Sx
structure DSlot where
  used : Bool
  key : ByteArray
  value : Int
deriving DecidableEq
instance : Inhabited DSlot := ⟨⟨false, ByteArray.empty, 0⟩⟩
def tSlot : Ty DSlot := ⟨3, fun c => [.bool c.used, .string c.key, .int .i64 c.value], fun _ => rfl⟩
namespace Tab
def none_ : DSlot := ⟨false, ByteArray.empty, 0⟩
def home (key : ByteArray) (n : Int) : Int := Hash.rawFold (Hash.mix (Hash.raw key)) n
def okVal (v : Int) : Bool := decide (-1099511627776 ≤ v) && decide (v ≤ 1099511627776)
def one (s : DSlot) : Int := if s.used = false ∧ s ≠ none_ then 1 else if 40 < (s.key.size : Int) ∨ okVal s.value = false then 3 else 0
/-- the places from one on, once round -/
def place (h n : Int) (i : Nat) : Int := (h + (i : Int)).tmod n
def slot (t : List DSlot) (h : Int) (i : Nat) : DSlot := t.getD (place h (t.length : Int) i).toNat default
def checkGo (pre : List ByteArray) : List DSlot → Int
  | [] => 0
  | s :: l => if one s ≠ 0 then one s else if s.used = false then checkGo pre l else if s.key ∈ pre then 6 else checkGo (pre ++ [s.key]) l
def keys (l : List DSlot) : List ByteArray := (l.filter (·.used)).map (·.key)
def reachGo (t : List DSlot) (h i : Int) : Nat → Nat → Bool
  | 0, _ => false
  | f + 1, k => if place h (t.length : Int) k = i then true else if (slot t h k).used = false then false else reachGo t h i f (k + 1)
def reached (t : List DSlot) (i : Int) : Bool := reachGo t (home (t.getD i.toNat default).key (t.length : Int)) i t.length 0
def allGo (t : List DSlot) : Nat → Nat → Int
  | 0, _ => 0
  | f + 1, k => if (t.getD k default).used = true ∧ reached t (k : Int) = false then 4 else allGo t f (k + 1)
def check (t : List DSlot) : Int := if t.length = 0 then 1 else if 64 < (t.length : Int) then 2 else if checkGo [] t ≠ 0 then checkGo [] t else allGo t t.length 0
def findGo (t : List DSlot) (key : ByteArray) (h : Int) : Nat → Nat → Int × Int
  | 0, _ => (-1, 0)
  | f + 1, k => if (slot t h k).used = false then (-1, 0) else if (slot t h k).key = key then (place h (t.length : Int) k, (k : Int) + 1) else findGo t key h f (k + 1)
def find (t : List DSlot) (key : ByteArray) : Int × Int := findGo t key (home key (t.length : Int)) t.length 0
def putGo (t : List DSlot) (key : ByteArray) (h : Int) : Nat → Nat → Int
  | 0, _ => -1
  | f + 1, k => if (slot t h k).used = false ∨ (slot t h k).key = key then place h (t.length : Int) k else putGo t key h f (k + 1)
def putAt (t : List DSlot) (key : ByteArray) : Int := putGo t key (home key (t.length : Int)) t.length 0
/-- a table of one's own, with a key -/
def put (t : List DSlot) (key : ByteArray) (v : Int) : List DSlot := if putAt t key < 0 then t else t.set (putAt t key).toNat ⟨true, key, v⟩
def keyErr (t : List DSlot) (key : ByteArray) : Int := if check t ≠ 0 then check t else if 40 < (key.size : Int) then 3 else if (find t key).1 < 0 then 5 else 0
def has (t : List DSlot) (key : ByteArray) : Int := if keyErr t key = 0 then (t.getD (find t key).1.toNat default).value else 0
def looked (t : List DSlot) (key : ByteArray) : Int := if keyErr t key = 0 then (find t key).2 else 0
def putErr (t : List DSlot) (key : ByteArray) (v : Int) : Int := if check t ≠ 0 then check t else if 40 < (key.size : Int) ∨ okVal v = false then 3 else if putAt t key < 0 then 8 else 0
def putR (t : List DSlot) (key : ByteArray) (v : Int) : List DSlot := if putErr t key v = 0 then put t key v else []
/-- closing a hole -/
def dropGo (n : Int) (first : Int) : Nat → Nat → List DSlot → Int → List DSlot
  | 0, _, out, _ => out
  | f + 1, k, out, hole =>
    if place first n k = hole then dropGo n first f (k + 1) out hole
    else if (out.getD (place first n k).toNat default).used = false then out
    else if (place first n k - hole + n).tmod n ≤ (place first n k - home (out.getD (place first n k).toNat default).key n + n).tmod n then
      dropGo n first f (k + 1) ((out.set hole.toNat (out.getD (place first n k).toNat default)).set (place first n k).toNat none_) (place first n k)
    else dropGo n first f (k + 1) out hole
def drop (t : List DSlot) (key : ByteArray) : List DSlot := dropGo (t.length : Int) (find t key).1 t.length 0 (t.set (find t key).1.toNat none_) (find t key).1
def delR (t : List DSlot) (key : ByteArray) : List DSlot := if keyErr t key = 0 then drop t key else []
/-- the slots of one table put into another; none: there is no room -/
def fill (out : List DSlot) : List DSlot → List DSlot × Bool
  | [] => (out, true)
  | s :: l => if s.used = true then (if putAt out s.key < 0 then (out, false) else fill (put out s.key s.value) l) else fill out l
def empty (n : Int) : List DSlot := List.replicate n.toNat none_
def sizeErr (t : List DSlot) (n : Int) : Int := if check t ≠ 0 then check t else if n < 1 ∨ 64 < n then 3 else if (fill (empty n) t).2 then 0 else 8
def sizeR (t : List DSlot) (n : Int) : List DSlot := if sizeErr t n = 0 then (fill (empty n) t).1 else []
theorem home_bd (key : ByteArray) {n : Int} (h : 1 ≤ n ∧ n ≤ 64) : 0 ≤ home key n ∧ home key n < n := by
  have e := Hash.rawFold_eq (Hash.mix (Hash.raw key)) n.toNat (by omega)
  rw [show ((n.toNat : Nat) : Int) = n by omega] at e
  unfold home; rw [e]
  have h1 : (Hash.mix (Hash.raw key)).toNat / 4294967296 < 4294967296 := by have := (Hash.mix (Hash.raw key)).toNat_lt; omega
  have h2 : (Hash.mix (Hash.raw key)).toNat / 4294967296 * n.toNat / 4294967296 < n.toNat := by
    rw [Nat.div_lt_iff_lt_mul (by decide), Nat.mul_comm n.toNat]
    exact Nat.mul_lt_mul_of_pos_right h1 (by omega)
  omega
theorem place_bd {h n : Int} (hn : 1 ≤ n) (h0 : 0 ≤ h) (i : Nat) : 0 ≤ place h n i ∧ place h n i < n := by
  unfold place
  rw [Int.tmod_eq_emod_of_nonneg (by omega)]
  exact ⟨Int.emod_nonneg _ (by omega), Int.emod_lt_of_pos _ (by omega)⟩
/-! ### the first loop of Check -/
structure CI (t : List DSlot) (k : Nat) : Prop where
  le : k ≤ t.length
  eq : checkGo (keys (t.take k)) (t.drop k) = checkGo [] t
theorem CI.start (t : List DSlot) : CI t 0 := ⟨Nat.zero_le _, rfl⟩
theorem keys_succ {t : List DSlot} {k : Nat} (h : k < t.length) : keys (t.take (k + 1)) = keys (t.take k) ++ if t[k].used = true then [t[k].key] else [] := by
  unfold keys; rw [List.take_succ_eq_append_getElem h, List.filter_append, List.map_append]
  congr 1
  by_cases e : t[k].used = true <;> simp [List.filter_cons, e]
theorem go_step {t : List DSlot} {k : Nat} (h : k < t.length) : checkGo (keys (t.take k)) (t.drop k) = if one t[k] ≠ 0 then one t[k] else if t[k].used = false then checkGo (keys (t.take (k + 1))) (t.drop (k + 1)) else if t[k].key ∈ keys (t.take k) then 6 else checkGo (keys (t.take (k + 1))) (t.drop (k + 1)) := by
  rw [List.drop_eq_getElem_cons h, checkGo, keys_succ h]
  split
  · rfl
  · by_cases e : t[k].used = false
    · rw [if_pos e, if_pos e, if_neg (by simp [e]), List.append_nil]
    · rw [if_neg e, if_neg e, if_pos (c := t[k].used = true) (by simpa using e)]
theorem CI.skip {t : List DSlot} {k : Nat} (h : CI t k) (hk : k < t.length) (ho : one t[k] = 0) (hu : t[k].used = false) : CI t (k + 1) := ⟨hk, by rw [← h.eq, go_step hk, if_neg (by simp [ho]), if_pos hu]⟩
theorem CI.next {t : List DSlot} {k : Nat} (h : CI t k) (hk : k < t.length) (ho : one t[k] = 0) (hu : t[k].used = true) (hn : t[k].key ∉ keys (t.take k)) : CI t (k + 1) := ⟨hk, by rw [← h.eq, go_step hk, if_neg (by simp [ho]), if_neg (by simp [hu]), if_neg hn]⟩
theorem CI.bad {t : List DSlot} {k : Nat} (h : CI t k) (hk : k < t.length) (ho : one t[k] ≠ 0) : one t[k] = checkGo [] t := by rw [← h.eq, go_step hk, if_pos ho]
theorem CI.twice {t : List DSlot} {k : Nat} (h : CI t k) (hk : k < t.length) (ho : one t[k] = 0) (hu : t[k].used = true) (ht : t[k].key ∈ keys (t.take k)) : 6 = checkGo [] t := by rw [← h.eq, go_step hk, if_neg (by simp [ho]), if_neg (by simp [hu]), if_pos ht]
theorem CI.done {t : List DSlot} {k : Nat} (h : CI t k) (hk : t.length ≤ k) : checkGo [] t = 0 := by rw [← h.eq, List.drop_of_length_le hk]; rfl
def Seen {ν : Type} (m : List (ByteArray × ν)) (t : List DSlot) (k : Nat) : Prop := ∀ j, (AL.get m j).isSome = true ↔ j ∈ keys (t.take k)
theorem Seen.start {ν : Type} (t : List DSlot) : Seen ([] : List (ByteArray × ν)) t 0 := fun j => by simp [AL.get, keys]
theorem Seen.next {ν : Type} {m : List (ByteArray × ν)} {t : List DSlot} {k : Nat} (h : Seen m t k) (hk : k < t.length) (hu : t[k].used = true) (x : ν) : Seen (AL.set m t[k].key x) t (k + 1) := fun j => by
  rw [AL.get_set, keys_succ hk, if_pos hu, List.mem_append]
  have hj := h j
  split
  · simp [*]
  · rw [hj]; simp [*]
theorem Seen.skip {ν : Type} {m : List (ByteArray × ν)} {t : List DSlot} {k : Nat} (h : Seen m t k) (hk : k < t.length) (hu : t[k].used = false) : Seen m t (k + 1) := fun j => by
  rw [keys_succ hk, if_neg (by simp [hu]), List.append_nil]; exact h j
theorem Seen.no {ν : Type} {m : List (ByteArray × ν)} {t : List DSlot} {k : Nat} (h : Seen m t k) {j : ByteArray} (hn : (AL.get m j).isSome = false) : j ∉ keys (t.take k) := fun hm => by
  rw [(h j).2 hm] at hn; cases hn
theorem ck1 {t : List DSlot} (h : (t.length : Int) = 0) : 1 = check t := by unfold check; rw [if_pos (by omega)]
theorem ck2 {t : List DSlot} (h : 64 < (t.length : Int)) : 2 = check t := by unfold check; rw [if_neg (by omega), if_pos h]
theorem ck3 {t : List DSlot} (h : ¬ (t.length : Int) = 0) (h2 : (t.length : Int) ≤ 64) {e : Int} (he : e = checkGo [] t) (hb : e ≠ 0) : e = check t := by unfold check; rw [if_neg (by omega), if_neg (by omega), ← he, if_pos hb]
theorem ck4 {t : List DSlot} (h : ¬ (t.length : Int) = 0) (h2 : (t.length : Int) ≤ 64) (hz : checkGo [] t = 0) {e : Int} (he : e = allGo t t.length 0) : e = check t := by unfold check; rw [if_neg (by omega), if_neg (by omega), hz, if_neg (by simp)]; exact he
/-! ### runs down to a place -/
structure AI (t : List DSlot) (k : Nat) : Prop where
  le : k ≤ t.length
  eq : allGo t (t.length - k) k = allGo t t.length 0
theorem AI.start (t : List DSlot) : AI t 0 := ⟨Nat.zero_le _, rfl⟩
theorem all_step {t : List DSlot} {k : Nat} (h : k < t.length) : allGo t (t.length - k) k = if (t.getD k default).used = true ∧ reached t (k : Int) = false then 4 else allGo t (t.length - (k + 1)) (k + 1) := by
  rw [show t.length - k = (t.length - (k + 1)) + 1 by omega, allGo]
theorem AI.next {t : List DSlot} {k : Nat} (h : AI t k) (hk : k < t.length) (hn : ¬ ((t.getD k default).used = true ∧ reached t (k : Int) = false)) : AI t (k + 1) := ⟨hk, by rw [← h.eq, all_step hk, if_neg hn]⟩
theorem AI.bad {t : List DSlot} {k : Nat} (h : AI t k) (hk : k < t.length) (hn : (t.getD k default).used = true ∧ reached t (k : Int) = false) : 4 = allGo t t.length 0 := by rw [← h.eq, all_step hk, if_pos hn]
theorem AI.done {t : List DSlot} {k : Nat} (h : AI t k) (hk : t.length ≤ k) : 0 = allGo t t.length 0 := by rw [← h.eq, show t.length - k = 0 by omega]; rfl
structure RI (t : List DSlot) (i : Int) (k : Nat) : Prop where
  le : k ≤ t.length
  eq : reachGo t (home (t.getD i.toNat default).key (t.length : Int)) i (t.length - k) k = reached t i
theorem RI.start (t : List DSlot) (i : Int) : RI t i 0 := ⟨Nat.zero_le _, rfl⟩
theorem reach_step {t : List DSlot} {h i : Int} {k : Nat} (hk : k < t.length) : reachGo t h i (t.length - k) k = if place h (t.length : Int) k = i then true else if (slot t h k).used = false then false else reachGo t h i (t.length - (k + 1)) (k + 1) := by
  rw [show t.length - k = (t.length - (k + 1)) + 1 by omega, reachGo]
theorem RI.yes {t : List DSlot} {i : Int} {k : Nat} (h : RI t i k) (hk : k < t.length) (he : place (home (t.getD i.toNat default).key (t.length : Int)) (t.length : Int) k = i) : true = reached t i := by rw [← h.eq, reach_step hk, if_pos he]
theorem RI.no {t : List DSlot} {i : Int} {k : Nat} (h : RI t i k) (hk : k < t.length) (he : ¬ place (home (t.getD i.toNat default).key (t.length : Int)) (t.length : Int) k = i) (hu : (slot t (home (t.getD i.toNat default).key (t.length : Int)) k).used = false) : false = reached t i := by rw [← h.eq, reach_step hk, if_neg he, if_pos hu]
theorem RI.next {t : List DSlot} {i : Int} {k : Nat} (h : RI t i k) (hk : k < t.length) (he : ¬ place (home (t.getD i.toNat default).key (t.length : Int)) (t.length : Int) k = i) (hu : (slot t (home (t.getD i.toNat default).key (t.length : Int)) k).used = true) : RI t i (k + 1) := ⟨hk, by rw [← h.eq, reach_step hk, if_neg he, if_neg (by rw [hu]; decide)]⟩
theorem RI.done {t : List DSlot} {i : Int} {k : Nat} (h : RI t i k) (hk : t.length ≤ k) : false = reached t i := by rw [← h.eq, show t.length - k = 0 by omega]; rfl
structure FI (t : List DSlot) (key : ByteArray) (k : Nat) : Prop where
  le : k ≤ t.length
  eq : findGo t key (home key (t.length : Int)) (t.length - k) k = find t key
theorem FI.start (t : List DSlot) (key : ByteArray) : FI t key 0 := ⟨Nat.zero_le _, rfl⟩
theorem find_step {t : List DSlot} {key : ByteArray} {h : Int} {k : Nat} (hk : k < t.length) : findGo t key h (t.length - k) k = if (slot t h k).used = false then (-1, 0) else if (slot t h k).key = key then (place h (t.length : Int) k, (k : Int) + 1) else findGo t key h (t.length - (k + 1)) (k + 1) := by
  rw [show t.length - k = (t.length - (k + 1)) + 1 by omega, findGo]
theorem FI.none_ {t : List DSlot} {key : ByteArray} {k : Nat} (h : FI t key k) (hk : k < t.length) (hu : (slot t (home key (t.length : Int)) k).used = false) : (-1, 0) = find t key := by rw [← h.eq, find_step hk, if_pos hu]
theorem FI.here {t : List DSlot} {key : ByteArray} {k : Nat} (h : FI t key k) (hk : k < t.length) (hu : (slot t (home key (t.length : Int)) k).used = true) (he : (slot t (home key (t.length : Int)) k).key = key) : (place (home key (t.length : Int)) (t.length : Int) k, (k : Int) + 1) = find t key := by rw [← h.eq, find_step hk, if_neg (by simp [hu]), if_pos he]
theorem FI.next {t : List DSlot} {key : ByteArray} {k : Nat} (h : FI t key k) (hk : k < t.length) (hu : (slot t (home key (t.length : Int)) k).used = true) (he : ¬ (slot t (home key (t.length : Int)) k).key = key) : FI t key (k + 1) := ⟨hk, by rw [← h.eq, find_step hk, if_neg (by simp [hu]), if_neg he]⟩
theorem FI.done {t : List DSlot} {key : ByteArray} {k : Nat} (h : FI t key k) (hk : t.length ≤ k) : (-1, 0) = find t key := by rw [← h.eq, show t.length - k = 0 by omega]; rfl
structure PI (t : List DSlot) (key : ByteArray) (k : Nat) : Prop where
  le : k ≤ t.length
  eq : putGo t key (home key (t.length : Int)) (t.length - k) k = putAt t key
theorem PI.start (t : List DSlot) (key : ByteArray) : PI t key 0 := ⟨Nat.zero_le _, rfl⟩
theorem put_step {t : List DSlot} {key : ByteArray} {h : Int} {k : Nat} (hk : k < t.length) : putGo t key h (t.length - k) k = if (slot t h k).used = false ∨ (slot t h k).key = key then place h (t.length : Int) k else putGo t key h (t.length - (k + 1)) (k + 1) := by
  rw [show t.length - k = (t.length - (k + 1)) + 1 by omega, putGo]
theorem PI.here {t : List DSlot} {key : ByteArray} {k : Nat} (h : PI t key k) (hk : k < t.length) (hu : (slot t (home key (t.length : Int)) k).used = false ∨ (slot t (home key (t.length : Int)) k).key = key) : place (home key (t.length : Int)) (t.length : Int) k = putAt t key := by rw [← h.eq, put_step hk, if_pos hu]
theorem PI.next {t : List DSlot} {key : ByteArray} {k : Nat} (h : PI t key k) (hk : k < t.length) (hu : ¬ ((slot t (home key (t.length : Int)) k).used = false ∨ (slot t (home key (t.length : Int)) k).key = key)) : PI t key (k + 1) := ⟨hk, by rw [← h.eq, put_step hk, if_neg hu]⟩
theorem PI.done {t : List DSlot} {key : ByteArray} {k : Nat} (h : PI t key k) (hk : t.length ≤ k) : -1 = putAt t key := by rw [← h.eq, show t.length - k = 0 by omega]; rfl
end Tab
end Go.Sx

/- Hash tables: the cases of the results. -/
namespace Go.Sx.Tab
theorem slot_eq {s : DSlot} (h : s.used = false ∧ s.key = ByteArray.empty ∧ s.value = 0) : s = none_ := by cases s; simp only [none_]; simp_all
theorem one1 {s : DSlot} (h : s.used = false ∧ (¬ s.used = false ∨ ¬ s.key = ByteArray.empty ∨ ¬ s.value = 0)) : 1 = one s := by
  refine (if_pos (show s.used = false ∧ s ≠ none_ from ⟨h.1, fun e => ?_⟩)).symm
  rcases h.2 with q | q | q <;> exact q (by rw [e]; rfl)
theorem one_no {s : DSlot} (h : s.used = true ∨ s.used = false ∧ s.key = ByteArray.empty ∧ s.value = 0) : ¬ (s.used = false ∧ s ≠ none_) := by
  rintro ⟨a, b⟩; rcases h with h | h
  · rw [a] at h; cases h
  · exact b (slot_eq h)
theorem one2 {s : DSlot} (h : s.used = true ∨ s.used = false ∧ s.key = ByteArray.empty ∧ s.value = 0) (h2 : 40 < (s.key.size : Int) ∨ okVal s.value = false) : 3 = one s := by
  unfold one; rw [if_neg (one_no h), if_pos h2]
theorem one3 {s : DSlot} (h : s.used = true ∨ s.used = false ∧ s.key = ByteArray.empty ∧ s.value = 0) (h2 : (s.key.size : Int) ≤ 40 ∧ okVal s.value = true) : 0 = one s := by
  unfold one; rw [if_neg (one_no h), if_neg]
  rintro (a | a)
  · omega
  · rw [h2.2] at a; cases a
theorem getd_eq {t : List DSlot} {k : Nat} (h : k < t.length) : t.getD k default = t[k] := (getd_at h default).symm
theorem AI.next2 {t : List DSlot} {k : Nat} (h : AI t k) (hk : k < t.length) (hn : t[k].used = false ∨ reached t (k : Int) = true) : AI t (k + 1) := h.next hk (by rw [getd_eq hk]; rintro ⟨a, b⟩; rcases hn with q | q; rw [a] at q; cases q; rw [b] at q; cases q)
theorem AI.bad2 {t : List DSlot} {k : Nat} (h : AI t k) (hk : k < t.length) (hu : t[k].used = true ∧ reached t (k : Int) = false) : 4 = allGo t t.length 0 := h.bad hk (by rw [getd_eq hk]; exact hu)
theorem ck_len {t : List DSlot} (h : check t = 0) : 1 ≤ t.length ∧ t.length ≤ 64 := by
  unfold check at h
  split at h
  · cases h
  · split at h
    · cases h
    · omega
theorem g1 {t : List DSlot} {key : ByteArray} (h : check t ≠ 0) : has t key = 0 ∧ looked t key = 0 ∧ keyErr t key = check t := by
  have e : keyErr t key = check t := if_pos h
  have e2 : keyErr t key ≠ 0 := by rw [e]; exact h
  exact ⟨if_neg e2, if_neg e2, e⟩
theorem g2 {t : List DSlot} {key : ByteArray} (h : check t = 0) (h2 : 40 < (key.size : Int)) : has t key = 0 ∧ looked t key = 0 ∧ keyErr t key = 3 := by
  have e : keyErr t key = 3 := by unfold keyErr; rw [if_neg (by simp [h]), if_pos h2]
  have e2 : keyErr t key ≠ 0 := by rw [e]; decide
  exact ⟨if_neg e2, if_neg e2, e⟩
theorem g3 {t : List DSlot} {key : ByteArray} (h : check t = 0) (h2 : (key.size : Int) ≤ 40) (h3 : (find t key).1 < 0) : has t key = 0 ∧ looked t key = 0 ∧ keyErr t key = 5 := by
  have e : keyErr t key = 5 := by unfold keyErr; rw [if_neg (by simp [h]), if_neg (by omega), if_pos h3]
  have e2 : keyErr t key ≠ 0 := by rw [e]; decide
  exact ⟨if_neg e2, if_neg e2, e⟩
theorem g4 {t : List DSlot} {key : ByteArray} (h : check t = 0) (h2 : (key.size : Int) ≤ 40) (h3 : 0 ≤ (find t key).1) : has t key = (t.getD (find t key).1.toNat default).value ∧ looked t key = (find t key).2 ∧ keyErr t key = 0 := by
  have e : keyErr t key = 0 := by unfold keyErr; rw [if_neg (by simp [h]), if_neg (by omega), if_neg (by omega)]
  exact ⟨if_pos e, if_pos e, e⟩
end Go.Sx.Tab
namespace Go.Sx.Tab
theorem one_key {s : DSlot} (h : one s = 0) : s.key.size ≤ 40 := by
  unfold one at h
  split at h
  · cases h
  · split at h
    · cases h
    · omega
theorem go_one : ∀ {l : List DSlot} {pre : List ByteArray}, checkGo pre l = 0 → ∀ s ∈ l, one s = 0
  | [], _, _, s, hs => by cases hs
  | x :: l, pre, h, s, hs => by
    rw [checkGo] at h
    by_cases e : one x ≠ 0
    · rw [if_pos e] at h; exact absurd h e
    · rw [if_neg e] at h
      rcases List.mem_cons.1 hs with q | q
      · rw [q]; simpa using e
      · split at h
        · exact go_one h s q
        · split at h
          · cases h
          · exact go_one h s q
theorem key_le {t : List DSlot} (h : checkGo [] t = 0) {i : Nat} (hi : i < t.length) : (t.getD i default).key.size ≤ 40 := by
  rw [getd_eq hi]; exact one_key (go_one h _ (List.getElem_mem hi))
end Go.Sx.Tab
namespace Go.Sx.Tab
theorem findGo_lt (t : List DSlot) (key : ByteArray) (h : Int) (hn : 1 ≤ t.length) (h0 : 0 ≤ h) : ∀ f k, -1 ≤ (findGo t key h f k).1 ∧ (findGo t key h f k).1 < (t.length : Int)
  | 0, k => by unfold findGo; exact ⟨by decide, by omega⟩
  | f + 1, k => by
    rw [findGo]
    split
    · exact ⟨by decide, by show (-1 : Int) < _; omega⟩
    · split
      · have := place_bd (n := (t.length : Int)) (by omega) h0 k; exact ⟨by show -1 ≤ place h _ k; omega, this.2⟩
      · exact findGo_lt t key h hn h0 f (k + 1)
theorem find_lt {t : List DSlot} (key : ByteArray) (hn : 1 ≤ t.length ∧ t.length ≤ 64) : -1 ≤ (find t key).1 ∧ (find t key).1 < (t.length : Int) := findGo_lt t key _ hn.1 (home_bd key (by omega)).1 _ _
theorem putGo_lt (t : List DSlot) (key : ByteArray) (h : Int) (hn : 1 ≤ t.length) (h0 : 0 ≤ h) : ∀ f k, -1 ≤ putGo t key h f k ∧ putGo t key h f k < (t.length : Int)
  | 0, k => by unfold putGo; exact ⟨by decide, by omega⟩
  | f + 1, k => by
    rw [putGo]
    split
    · have := place_bd (n := (t.length : Int)) (by omega) h0 k; exact ⟨by omega, this.2⟩
    · exact putGo_lt t key h hn h0 f (k + 1)
theorem putAt_lt {t : List DSlot} (key : ByteArray) (hn : 1 ≤ t.length ∧ t.length ≤ 64) : -1 ≤ putAt t key ∧ putAt t key < (t.length : Int) := putGo_lt t key _ hn.1 (home_bd key (by omega)).1 _ _
theorem put_len (t : List DSlot) (key : ByteArray) (v : Int) : (put t key v).length = t.length := by unfold put; split <;> simp
end Go.Sx.Tab
namespace Go.Sx.Tab
theorem put_no {t : List DSlot} {key : ByteArray} {v : Int} (h : -1 = putAt t key) : t = put t key v ∧ false = !decide (putAt t key < 0) := by
  have h1 : putAt t key < 0 := by omega
  exact ⟨(if_pos h1).symm, by simp [h1]⟩
theorem put_yes {t : List DSlot} {key : ByteArray} {v p n : Int} (hp : 0 ≤ p ∧ p < n) (h : p = putAt t key) : t.set p.toNat ⟨true, key, v⟩ = put t key v ∧ true = !decide (putAt t key < 0) := by
  have h1 : ¬ putAt t key < 0 := by omega
  refine ⟨?_, by simp [h1]⟩
  rw [show put t key v = t.set (putAt t key).toNat ⟨true, key, v⟩ from if_neg h1, h]
end Go.Sx.Tab
namespace Go.Sx.Tab
theorem not_or2 {b : Bool} {p : Prop} (h : b = true ∧ ¬ p) : ¬ (b = false ∨ p) := by rintro (a | a); rw [h.1] at a; cases a; exact h.2 a
end Go.Sx.Tab
namespace Go.Sx.Tab
theorem p1 {t : List DSlot} {key : ByteArray} {v : Int} (h : check t ≠ 0) : putR t key v = [] ∧ putErr t key v = check t := by
  have e : putErr t key v = check t := if_pos h
  exact ⟨if_neg (by rw [e]; exact h), e⟩
theorem p2 {t : List DSlot} {key : ByteArray} {v : Int} (h : check t = 0) (h2 : 40 < (key.size : Int) ∨ okVal v = false) : putR t key v = [] ∧ putErr t key v = 3 := by
  have e : putErr t key v = 3 := by unfold putErr; rw [if_neg (by simp [h]), if_pos h2]
  exact ⟨if_neg (by rw [e]; decide), e⟩
theorem rg_no {key : ByteArray} {v : Int} (h2 : (key.size : Int) ≤ 40 ∧ okVal v = true) : ¬ (40 < (key.size : Int) ∨ okVal v = false) := by
  rintro (a | a)
  · omega
  · rw [h2.2] at a; cases a
theorem p3 {t : List DSlot} {key : ByteArray} {v : Int} (h : check t = 0) (h2 : (key.size : Int) ≤ 40 ∧ okVal v = true) (h3 : putAt t key < 0) : putR t key v = [] ∧ putErr t key v = 8 := by
  have e : putErr t key v = 8 := by unfold putErr; rw [if_neg (by simp [h]), if_neg (rg_no h2), if_pos h3]
  exact ⟨if_neg (by rw [e]; decide), e⟩
theorem p4 {t : List DSlot} {key : ByteArray} {v : Int} (h : check t = 0) (h2 : (key.size : Int) ≤ 40 ∧ okVal v = true) (h3 : 0 ≤ putAt t key) : putR t key v = put t key v ∧ putErr t key v = 0 := by
  have e : putErr t key v = 0 := by unfold putErr; rw [if_neg (by simp [h]), if_neg (rg_no h2), if_neg (by omega)]
  exact ⟨if_pos e, e⟩
theorem ck_go {t : List DSlot} (h : check t = 0) : checkGo [] t = 0 := by
  unfold check at h
  split at h
  · cases h
  · split at h
    · cases h
    · split at h
      · rename_i h1; exact absurd h h1
      · rename_i h1; simpa using h1
theorem key_of {t : List DSlot} (h : check t = 0) {i : Nat} (hi : i < t.length) : t[i].key.size ≤ 40 := by
  have := key_le (ck_go h) hi; rw [getd_eq hi] at this; exact this
theorem key_ok {t : List DSlot} {key : ByteArray} (h : keyErr t key = 0) : check t = 0 ∧ key.size ≤ 40 ∧ 0 ≤ (find t key).1 := by
  unfold keyErr at h
  split at h
  · rename_i h1; exact absurd h h1
  · rename_i h1
    split at h
    · cases h
    · split at h
      · cases h
      · exact ⟨by simpa using h1, by omega, by omega⟩
theorem del_bad {t : List DSlot} {key : ByteArray} (h : keyErr t key ≠ 0) : delR t key = [] := if_neg h
theorem del_ok {t l : List DSlot} {key : ByteArray} (h : keyErr t key = 0) (e : l = drop t key) : delR t key = l := by rw [e]; exact if_pos h
structure DI (t : List DSlot) (key : ByteArray) (ls : List DSlot) (ho : Int) (k : Nat) : Prop where
  le : k ≤ t.length
  len : ls.length = t.length
  hob : 0 ≤ ho ∧ ho < (t.length : Int)
  ks : ∀ i, i < ls.length → (ls.getD i default).key.size ≤ 40
  eq : dropGo (t.length : Int) (find t key).1 (t.length - k) k ls ho = drop t key
theorem getd_set {l : List DSlot} {i j : Nat} {x : DSlot} (hj : j < l.length) : (l.set i x).getD j default = if i = j then x else l.getD j default := by
  rw [← getd_at (show j < (l.set i x).length by simpa using hj) default, ← getd_at hj default, List.getElem_set]
theorem DI.start {t : List DSlot} {key : ByteArray} (h : check t = 0) (h1 : 0 ≤ (find t key).1) (h2 : (find t key).1 < (t.length : Int)) : DI t key (t.set (find t key).1.toNat none_) (find t key).1 0 := by
  refine ⟨Nat.zero_le _, by simp, ⟨h1, h2⟩, fun i hi => ?_, rfl⟩
  have hi' : i < t.length := by simpa using hi
  rw [getd_set hi']
  split
  · decide
  · exact key_le (ck_go h) hi'
theorem DI.key {t : List DSlot} {key : ByteArray} {ls : List DSlot} {ho : Int} {k : Nat} (h : DI t key ls ho k) {p : Int} (hp : 0 ≤ p ∧ p < (t.length : Int)) : (ls.getD p.toNat default).key.size ≤ 40 := h.ks _ (by rw [h.len]; omega)
theorem drop_step {n first : Int} {m k : Nat} {out : List DSlot} {hole : Int} (hk : k < m) : dropGo n first (m - k) k out hole = if place first n k = hole then dropGo n first (m - (k + 1)) (k + 1) out hole else if (out.getD (place first n k).toNat default).used = false then out
    else if (place first n k - hole + n).tmod n ≤ (place first n k - home (out.getD (place first n k).toNat default).key n + n).tmod n then
      dropGo n first (m - (k + 1)) (k + 1) ((out.set hole.toNat (out.getD (place first n k).toNat default)).set (place first n k).toNat none_) (place first n k)
    else dropGo n first (m - (k + 1)) (k + 1) out hole := by
  rw [show m - k = (m - (k + 1)) + 1 by omega, dropGo]
section
variable {t : List DSlot} {key : ByteArray} {ls : List DSlot} {ho : Int} {k : Nat}
theorem DI.same (h : DI t key ls ho k) (hk : k < t.length) (he : place (find t key).1 (t.length : Int) k = ho) : DI t key ls ho (k + 1) := ⟨hk, h.len, h.hob, h.ks, by rw [← h.eq, drop_step hk, if_pos he]⟩
theorem DI.stop (h : DI t key ls ho k) (hk : k < t.length) (he : ¬ place (find t key).1 (t.length : Int) k = ho) (hu : (ls.getD (place (find t key).1 (t.length : Int) k).toNat default).used = false) : ls = drop t key := by rw [← h.eq, drop_step hk, if_neg he, if_pos hu]
theorem DI.move (h : DI t key ls ho k) (hpb : 0 ≤ place (find t key).1 (t.length : Int) k ∧ place (find t key).1 (t.length : Int) k < (t.length : Int)) (hk : k < t.length) (he : ¬ place (find t key).1 (t.length : Int) k = ho) (hu : (ls.getD (place (find t key).1 (t.length : Int) k).toNat default).used = true)
    (hm : (place (find t key).1 (t.length : Int) k - ho + (t.length : Int)).tmod (t.length : Int) ≤ (place (find t key).1 (t.length : Int) k - home (ls.getD (place (find t key).1 (t.length : Int) k).toNat default).key (t.length : Int) + (t.length : Int)).tmod (t.length : Int)) :
    DI t key ((ls.set ho.toNat (ls.getD (place (find t key).1 (t.length : Int) k).toNat default)).set (place (find t key).1 (t.length : Int) k).toNat none_) (place (find t key).1 (t.length : Int) k) (k + 1) := by
  refine ⟨hk, by simp [h.len], hpb, fun i hi => ?_, by rw [← h.eq, drop_step hk, if_neg he, if_neg (by rw [hu]; decide), if_pos hm]⟩
  have hi' : i < ls.length := by simpa using hi
  rw [getd_set (by simpa using hi')]
  split
  · decide
  · rw [getd_set hi']
    split
    · exact h.key hpb
    · exact h.ks i hi'
theorem DI.keep (h : DI t key ls ho k) (hk : k < t.length) (he : ¬ place (find t key).1 (t.length : Int) k = ho) (hu : (ls.getD (place (find t key).1 (t.length : Int) k).toNat default).used = true)
    (hm : (place (find t key).1 (t.length : Int) k - home (ls.getD (place (find t key).1 (t.length : Int) k).toNat default).key (t.length : Int) + (t.length : Int)).tmod (t.length : Int) < (place (find t key).1 (t.length : Int) k - ho + (t.length : Int)).tmod (t.length : Int)) : DI t key ls ho (k + 1) :=
  ⟨hk, h.len, h.hob, h.ks, by rw [← h.eq, drop_step hk, if_neg he, if_neg (by rw [hu]; decide), if_neg (by omega)]⟩
theorem DI.done (h : DI t key ls ho k) (hk : t.length ≤ k) : ls = drop t key := by rw [← h.eq, show t.length - k = 0 by omega]; rfl
end
theorem z1 {t : List DSlot} {n : Int} (h : check t ≠ 0) : sizeR t n = [] ∧ sizeErr t n = check t := by
  have e : sizeErr t n = check t := if_pos h
  exact ⟨if_neg (by rw [e]; exact h), e⟩
theorem z2 {t : List DSlot} {n : Int} (h : check t = 0) (h2 : n < 1 ∨ 64 < n) : sizeR t n = [] ∧ sizeErr t n = 3 := by
  have e : sizeErr t n = 3 := by unfold sizeErr; rw [if_neg (by simp [h]), if_pos h2]
  exact ⟨if_neg (by rw [e]; decide), e⟩
structure ZI (t : List DSlot) (n : Int) (ls : List DSlot) (k : Nat) : Prop where
  le : k ≤ t.length
  len : ls.length = n.toNat
  eq : fill ls (t.drop k) = fill (empty n) t
theorem ZI.start (t : List DSlot) (n : Int) : ZI t n (List.replicate n.toNat none_) 0 := ⟨Nat.zero_le _, by simp, rfl⟩
section
variable {t ls : List DSlot} {n : Int} {k : Nat}
theorem fill_step (hk : k < t.length) : fill ls (t.drop k) = if t[k].used = true then (if putAt ls t[k].key < 0 then (ls, false) else fill (put ls t[k].key t[k].value) (t.drop (k + 1))) else fill ls (t.drop (k + 1)) := by
  rw [List.drop_eq_getElem_cons hk, fill]
theorem ZI.add (h : ZI t n ls k) (hk : k < t.length) (hu : t[k].used = true ∧ 0 ≤ putAt ls t[k].key) : ZI t n (put ls t[k].key t[k].value) (k + 1) := ⟨hk, by rw [put_len, h.len], by rw [← h.eq, fill_step hk, if_pos hu.1, if_neg (by omega)]⟩
theorem ZI.skip (h : ZI t n ls k) (hk : k < t.length) (hu : t[k].used = false) : ZI t n ls (k + 1) := ⟨hk, h.len, by rw [← h.eq, fill_step hk, if_neg (by rw [hu]; decide)]⟩
theorem ZI.bad (h : ZI t n ls k) (hc : check t = 0) (hn : 1 ≤ n ∧ n ≤ 64) (hk : k < t.length) (hu : t[k].used = true ∧ putAt ls t[k].key < 0) : sizeR t n = [] ∧ sizeErr t n = 8 := by
  have e : sizeErr t n = 8 := by unfold sizeErr; rw [if_neg (by simp [hc]), if_neg (by omega), ← h.eq, fill_step hk, if_pos hu.1, if_pos hu.2, if_neg (by simp)]
  exact ⟨if_neg (by rw [e]; decide), e⟩
theorem ZI.done (h : ZI t n ls k) (hc : check t = 0) (hn : 1 ≤ n ∧ n ≤ 64) (hk : t.length ≤ k) : sizeR t n = ls ∧ sizeErr t n = 0 := by
  have h1 : fill (empty n) t = (ls, true) := by rw [← h.eq, List.drop_of_length_le hk]; rfl
  have e : sizeErr t n = 0 := by unfold sizeErr; rw [if_neg (by simp [hc]), if_neg (by omega), h1, if_pos rfl]
  refine ⟨?_, e⟩
  rw [show sizeR t n = (fill (empty n) t).1 from if_pos e, h1]
end
end Go.Sx.Tab
namespace Go.Sx.Tab
theorem in1 {p h n : Int} (hp : 0 ≤ p ∧ p < n) (hh : 0 ≤ h ∧ h < n) (hn : n ≤ 64) : -9223372036854775808 ≤ p - h ∧ p - h ≤ 9223372036854775807 := by omega
theorem in2 {p h n : Int} (hp : 0 ≤ p ∧ p < n) (hh : 0 ≤ h ∧ h < n) (hn : n ≤ 64) : -9223372036854775808 ≤ p - h + n ∧ p - h + n ≤ 9223372036854775807 := by omega
end Go.Sx.Tab

/- The walks, printed by a program from the translation and a specification. -/
namespace Go.Proofs.Ythecfjipaepcgaa
open Go.Sx Go.RowKit
set_option maxHeartbeats 8000000 in
set_option maxRecDepth 100000 in
theorem mix_ok (n : UInt64) : Fn0 Try.prog 92 [.int .u64 (n.toNat : Int)] (fun _ => True) (.int .u64 ((Hash.mix n).toNat : Int)) := by
 refine fn0 (nt := 17) (F0 := [(0, .int .u64 (n.toNat : Int))]) Try.func92 rfl Try.ntmps92 rfl rfl (fun w0 hpre => ?_)
 refine c_seq (c_region ?_)
 refine o_as rfl rfl ?_
 refine o_nil (q_then (c_seq (c_region ?_)))
 refine o_mv rfl rfl ?_
 refine o_mv rfl rfl ?_
 refine o_p (pu_shr (p := n) (m := 30) rfl rfl (by decide)) ?_
 refine o_p (pu_xor (p := n) (q := (shrU n 30)) rfl rfl) ?_
 refine o_p (pu_mul (p := (n ^^^ (shrU n 30))) (q := (13787848793156543929 : UInt64)) rfl rfl) ?_
 refine o_as rfl rfl ?_
 refine o_nil (q_then (c_seq (c_region ?_)))
 refine o_mv rfl rfl ?_
 refine o_mv rfl rfl ?_
 refine o_p (pu_shr (p := ((n ^^^ (shrU n 30)) * (13787848793156543929 : UInt64))) (m := 27) rfl rfl (by decide)) ?_
 refine o_p (pu_xor (p := ((n ^^^ (shrU n 30)) * (13787848793156543929 : UInt64))) (q := (shrU ((n ^^^ (shrU n 30)) * (13787848793156543929 : UInt64)) 27)) rfl rfl) ?_
 refine o_p (pu_mul (p := (((n ^^^ (shrU n 30)) * (13787848793156543929 : UInt64)) ^^^ (shrU ((n ^^^ (shrU n 30)) * (13787848793156543929 : UInt64)) 27))) (q := (10723151780598845931 : UInt64)) rfl rfl) ?_
 refine o_as rfl rfl ?_
 refine o_nil (q_then (c_seq (c_region ?_)))
 refine o_mv rfl rfl ?_
 refine o_mv rfl rfl ?_
 refine o_p (pu_shr (p := ((((n ^^^ (shrU n 30)) * (13787848793156543929 : UInt64)) ^^^ (shrU ((n ^^^ (shrU n 30)) * (13787848793156543929 : UInt64)) 27)) * (10723151780598845931 : UInt64))) (m := 31) rfl rfl (by decide)) ?_
 refine o_p (pu_xor (p := ((((n ^^^ (shrU n 30)) * (13787848793156543929 : UInt64)) ^^^ (shrU ((n ^^^ (shrU n 30)) * (13787848793156543929 : UInt64)) 27)) * (10723151780598845931 : UInt64))) (q := (shrU ((((n ^^^ (shrU n 30)) * (13787848793156543929 : UInt64)) ^^^ (shrU ((n ^^^ (shrU n 30)) * (13787848793156543929 : UInt64)) 27)) * (10723151780598845931 : UInt64)) 31)) rfl rfl) ?_
 refine o_as rfl rfl ?_
 refine o_nil (q_then (c_ret ?_))
 refine q_end0 (v := .int .u64 ((((((n ^^^ (shrU n 30)) * (13787848793156543929 : UInt64)) ^^^ (shrU ((n ^^^ (shrU n 30)) * (13787848793156543929 : UInt64)) 27)) * (10723151780598845931 : UInt64)) ^^^ (shrU ((((n ^^^ (shrU n 30)) * (13787848793156543929 : UInt64)) ^^^ (shrU ((n ^^^ (shrU n 30)) * (13787848793156543929 : UInt64)) 27)) * (10723151780598845931 : UInt64)) 31)).toNat : Int)) (rt1 rfl (r_tmp rfl)) (i := 0) rfl ?_
 rfl

set_option maxHeartbeats 8000000 in
set_option maxRecDepth 100000 in
theorem raw_ok (s : ByteArray) : Fn0 Try.prog 72 [.string s] (fun w => s.size ≤ 9223372036854775807) (.int .u64 ((Hash.raw s).toNat : Int)) := by
 refine fn0 (nt := 19) (F0 := [(0, .string s)]) Try.func72 rfl Try.ntmps72 rfl rfl (fun w0 hpre => ?_)
 have hs := hpre
 refine c_seq (c_region ?_)
 refine o_as rfl rfl ?_
 refine o_nil (q_then (c_seq (c_region ?_)))
 refine o_as rfl rfl ?_
 refine o_nil (q_then (c_seq (c_seq (c_region ?_))))
 refine o_mv rfl rfl ?_
 refine o_p (p_len_string rfl rfl Try.underlying9) ?_
 refine o_mv rfl rfl ?_
 refine o_nil (q_then (c_block ?_))
 refine c_loop (St := UInt64 × Nat)
  (fun ⟨n, k⟩ => [(0, .string s), (3, .int .u64 (n.toNat : Int)), (6, Vi (s.size : Int)), (7, Vi (k : Int))])
  (fun ⟨n, k⟩ => [base w0])
  (fun ⟨n, k⟩ => k ≤ s.size ∧ n = Hash.rawTo s k)
  (fun ⟨n, k⟩ => s.size - k)
  ((14695981039346656037 : UInt64), 0) ?_ (sr (sr (sr (sr (Sub.nil _))))) (fun _ hw => hw) ?_
 ·exact ⟨Nat.zero_le _, rfl⟩
 rintro ⟨n, k⟩ hI K hK1
 obtain ⟨hk, ho⟩ := hI
 show SC _ _ Try.prog 19 w0 _ _ [(0, .string s), (3, .int .u64 (n.toNat : Int)), (6, Vi (s.size : Int)), (7, Vi (k : Int))] [base w0]
 refine c_seq (c_region ?_)
 refine o_p (p_lt rfl rfl) ?_
 refine o_nil (q_then (c_seq ?_))
 refine c_cond rfl (fun hc2 => ?_) (fun hc2 => ?_)
 ·simp only [decide_eq_true_eq] at hc2
  refine c_skip (q_then (c_seq (c_block (c_seq (c_region ?_)))))
  refine o_mv rfl rfl ?_
  refine o_as rfl rfl ?_
  refine o_nil (q_then (c_region ?_))
  refine o_mv rfl rfl ?_
  refine o_mv rfl rfl ?_
  refine o_mv rfl rfl ?_
  refine o_p (p_indexStr (z := (k : Int)) (i := k) rfl rfl Try.underlying9 (by omega) (by omega)) ?_
  refine o_p (pu_convB (c := (byteAt s k)) rfl Try.underlying5 Try.underlying59) ?_
  refine o_p (pu_xor (p := n) (q := (byteAt s k).toUInt64) rfl rfl) ?_
  refine o_p (pu_mul (p := (n ^^^ (byteAt s k).toUInt64)) (q := (1099511628211 : UInt64)) rfl rfl) ?_
  refine o_as rfl rfl ?_
  refine o_nil ?_
  refine q_block_normal (q_then ?_)
  refine c_region ?_
  refine o_p (p_addb rfl rfl (by omega)) ?_
  refine o_mv rfl rfl ?_
  refine o_nil ?_
  refine q_round hK1 (((n ^^^ (byteAt s k).toUInt64) * (1099511628211 : UInt64)), k + 1) ?_ ?_ ?_ ?_
  ·clear hK1
   exact ⟨by omega, by rw [ho]; rfl⟩
  ·(try dsimp only); omega
  ·exact sr (sr (sr (sr (Sub.nil _))))
  ·exact pk [0]
 ·simp only [decide_eq_false_iff_not, Int.not_lt] at hc2
  refine c_exit ?_
  refine q_then_exit (q_then_exit (q_block_exit (q_then ?_)))
  refine c_seq (c_region ?_)
  refine o_mv rfl rfl ?_
  refine o_as rfl rfl ?_
  refine o_nil (q_then (c_ret ?_))
  refine q_end0 (v := .int .u64 (n.toNat : Int)) (rt1 rfl (r_tmp rfl)) (i := 0) rfl ?_
  rw [show n = Hash.raw s by unfold Hash.raw; rw [ho]; congr 1; omega]

set_option maxHeartbeats 8000000 in
set_option maxRecDepth 100000 in
theorem rawFold_ok (n : UInt64) (most : Int) : Fn0 Try.prog 91 [.int .u64 (n.toNat : Int), Vi most] (fun _ => True) (Vi (Hash.rawFold n most)) := by
 refine fn0 (nt := 12) (F0 := [(0, .int .u64 (n.toNat : Int)), (1, Vi most)]) Try.func91 rfl Try.ntmps91 rfl rfl (fun w0 hpre => ?_)
 refine c_seq (c_region ?_)
 refine o_as rfl rfl ?_
 refine o_nil (q_then (c_seq (c_region ?_)))
 refine o_mv rfl rfl ?_
 refine o_p (pu_shr (p := n) (m := 32) rfl rfl (by decide)) ?_
 refine o_mv rfl rfl ?_
 refine o_p (pu_conv (z := most) rfl Try.underlying3 Try.underlying59) ?_
 refine o_p (pu_mul (p := (shrU n 32)) (q := (toU most)) rfl rfl) ?_
 refine o_p (pu_shr (p := ((shrU n 32) * (toU most))) (m := 32) rfl rfl (by decide)) ?_
 refine o_p (p_conv (z := ((shrU ((shrU n 32) * (toU most)) 32).toNat : Int)) rfl Try.underlying59 Try.underlying3) ?_
 refine o_as rfl rfl ?_
 refine o_nil (q_then (c_ret ?_))
 refine q_end0 (v := Vi (IntKind.i64.wrap ((shrU ((shrU n 32) * (toU most)) 32).toNat : Int))) (rt1 rfl (r_tmp rfl)) (i := 0) rfl ?_
 rfl

set_option maxHeartbeats 8000000 in
set_option maxRecDepth 100000 in
theorem thome_ok (key : ByteArray) (slots : Int) (hy1 : key.size ≤ 40) : Fn0 Try.prog 60 [.string key, Vi slots] (fun _ => True) (Vi (Tab.home key slots)) := by
 refine fn0 (nt := 10) (F0 := [(0, .string key), (1, Vi slots)]) Try.func60 rfl Try.ntmps60 rfl rfl (fun w0 hpre => ?_)
 refine c_seq (c_region ?_)
 refine o_as rfl rfl ?_
 refine o_nil (q_then (c_seq (c_region ?_)))
 refine o_mv rfl rfl ?_
 refine o_call0 (v := .int .u64 ((Hash.raw key).toNat : Int)) rfl (raw_ok key) hf72 (fun w hw => (by first | assumption | omega | decide | (rw [ByteArray.size_append]; omega) | simp)) rfl ?_
 refine o_call0 (v := .int .u64 ((Hash.mix (Hash.raw key)).toNat : Int)) rfl (mix_ok (Hash.raw key)) hf92 (fun _ _ => trivial) rfl ?_
 refine o_mv rfl rfl ?_
 refine o_call0 (v := Vi (Hash.rawFold (Hash.mix (Hash.raw key)) slots)) rfl (rawFold_ok (Hash.mix (Hash.raw key)) slots) hf91 (fun _ _ => trivial) rfl ?_
 refine o_as rfl rfl ?_
 refine o_nil (q_then (c_ret ?_))
 have hr0 : ((Hash.rawFold (Hash.mix (Hash.raw key)) slots) : Int) = (Tab.home key slots) := by
  rfl
 refine q_end0 (v := Vi (Hash.rawFold (Hash.mix (Hash.raw key)) slots)) (rt1 rfl (r_tmp rfl)) (i := 0) rfl ?_
 exact (by have hcc := congrArg (fun (y0 : Int) => (.int .i64 y0 : Value)) hr0; exact hcc)

set_option maxHeartbeats 8000000 in
set_option maxRecDepth 100000 in
theorem tright_ok (value : Int) : Fn0 Try.prog 56 [Vi value] (fun _ => True) (.bool (Tab.okVal value)) := by
 refine fn0 (nt := 9) (F0 := [(0, Vi value)]) Try.func56 rfl Try.ntmps56 rfl rfl (fun w0 hpre => ?_)
 refine c_seq (c_region ?_)
 refine o_as rfl rfl ?_
 refine o_nil (q_then (c_seq (c_region ?_)))
 refine o_mv rfl rfl ?_
 refine o_p (p_ge rfl rfl) ?_
 refine o_mv rfl rfl ?_
 refine o_and (p := 8) 3 (decide (value ≤ 1099511627776)) ?_ ?_ ?_
 ·intro hb1 hk
  simp only [decide_eq_true_eq] at hb1
  refine o_unguard 5 rfl rfl ?_
  refine o_mv rfl rfl ?_
  refine o_unguard 5 rfl rfl ?_
  refine o_p (p_le rfl rfl) ?_
  refine o_pt rfl rfl rfl ?_
  exact o_sub (sr (Sub.skip rfl (Sub.skip rfl (Sub.skip rfl (Sub.skip rfl (Sub.refl _)))))) hk
 ·intro hb1 hk
  refine o_guard_no rfl 5 rfl rfl rfl rfl rfl ?_
  refine o_guard_no rfl 5 rfl rfl rfl rfl rfl ?_
  refine o_pf rfl rfl rfl ?_
  exact o_sub (sr (Sub.skip rfl (Sub.skip rfl (Sub.skip rfl (Sub.skip rfl (Sub.refl _)))))) hk
 refine o_as rfl rfl ?_
 refine o_nil (q_then (c_ret ?_))
 have hr0 : ((decide ((-1099511627776) ≤ value) && decide (value ≤ 1099511627776)) : Bool) = (Tab.okVal value) := by
  rfl
 refine q_end0 (v := .bool (decide ((-1099511627776) ≤ value) && decide (value ≤ 1099511627776))) (rt1 rfl (r_tmp rfl)) (i := 0) rfl ?_
 exact (by have hcc := congrArg (fun (y0 : Bool) => (.bool y0 : Value)) hr0; exact hcc)

set_option maxHeartbeats 8000000 in
set_option maxRecDepth 100000 in
theorem tone_ok (s : DSlot) : Fn0 Try.prog 65 [.agg #[.bool s.used, .string s.key, Vi s.value]] (fun _ => True) (Vi (Tab.one s)) := by
 refine fn0 (nt := 23) (F0 := [(0, .agg #[.bool s.used, .string s.key, Vi s.value])]) Try.func65 rfl Try.ntmps65 rfl rfl (fun w0 hpre => ?_)
 refine c_seq (c_region ?_)
 refine o_box (v := .agg #[.bool s.used, .string s.key, Vi s.value]) rfl rfl (fun B1 => ?_)
 refine o_as rfl rfl ?_
 refine o_nil (q_then (c_seq (c_block (c_seq (c_region ?_)))))
 refine o_p (p_fieldAddr (j' := 0) rfl fo33_0 rfl) ?_
 refine o_p (p_load (i := 0) (v := .bool s.used) rfl rfl sh4 rfl) ?_
 refine o_p (p_not (b := s.used) rfl) ?_
 refine o_mv rfl rfl ?_
 refine o_and (p := 11) 4 (!((s.used == false) && (decide (s.key = ByteArray.empty) && (s.value == 0)))) ?_ ?_ ?_
 ·intro hb2 hk
  simp only [Bool.not_eq_true'] at hb2
  refine o_unguard 7 rfl rfl ?_
  refine o_p (p_load_agg (i := 0) (vs := [.bool s.used, .string s.key, Vi s.value]) rfl rfl sh33 rfl rfl) ?_
  refine o_unguard 7 rfl rfl ?_
  refine o_p (p_build (cells := [.bool false, .string ByteArray.empty, Vi 0]) fp33 ze33 rfl rfl) ?_
  refine o_unguard 7 rfl rfl ?_
  refine o_p (p_neStruct (xs := [.bool s.used, .string s.key, Vi s.value]) (ys := [.bool false, .string ByteArray.empty, Vi 0]) (r := ((s.used == false) && (decide (s.key = ByteArray.empty) && (s.value == 0)))) rfl rfl eqS33) ?_
  refine o_pt rfl rfl rfl ?_
  exact o_sub (sr (Sub.skip rfl (Sub.skip rfl (Sub.skip rfl (Sub.skip rfl (Sub.skip rfl (Sub.refl _))))))) hk
 ·intro hb2 hk
  refine o_guard_no rfl 7 rfl rfl rfl rfl rfl ?_
  refine o_guard_no rfl 7 rfl rfl rfl rfl rfl ?_
  refine o_guard_no rfl 7 rfl rfl rfl rfl rfl ?_
  refine o_pf rfl rfl rfl ?_
  exact o_sub (sr (Sub.skip rfl (Sub.skip rfl (Sub.skip rfl (Sub.skip rfl (Sub.skip rfl (Sub.refl _))))))) hk
 refine o_as rfl rfl ?_
 refine o_nil (q_then ?_)
 refine c_cond rfl (fun hc3 => ?_) (fun hc3 => ?_)
 ·simp only [Bool.and_eq_true, Bool.not_eq_true', Bool.and_eq_false_iff, beq_eq_false_iff_ne, ne_eq, decide_eq_false_iff_not] at hc3
  refine c_seq (c_region ?_)
  refine o_as rfl rfl ?_
  refine o_nil (q_then (c_ret ?_))
  refine q_block_ret (q_then_ret ?_)
  have hr0 : (1 : Int) = (Tab.one s) := by
   first | exact Tab.one1 (s := s) (by assumption) | exact Tab.one2 (s := s) (by assumption) (by assumption) | exact Tab.one3 (s := s) (by assumption) (by assumption)
  refine q_end0 (v := Vi 1) (rt1 rfl (r_tmp rfl)) (i := 1) rfl ?_
  exact (by have hcc := congrArg (fun (y0 : Int) => (.int .i64 y0 : Value)) hr0; exact hcc)
 ·simp only [Bool.and_eq_false_iff, Bool.not_eq_false', Bool.and_eq_true, beq_iff_eq, decide_eq_true_eq] at hc3
  refine c_seq (c_region ?_)
  refine o_p (p_fieldAddr (j' := 1) rfl fo33_1 rfl) ?_
  refine o_p (p_load (i := 0) (v := .string s.key) rfl rfl sh9 rfl) ?_
  refine o_p (p_len_string rfl rfl Try.underlying9) ?_
  refine o_p (p_gt rfl rfl) ?_
  refine o_mv rfl rfl ?_
  refine o_or (p := 22) 5 (!(Tab.okVal s.value)) ?_ ?_ ?_
  ·intro hb4 hk
   simp only [decide_eq_false_iff_not, Int.not_lt] at hb4
   refine o_unguard 17 rfl rfl ?_
   refine o_p (p_fieldAddr (j' := 2) rfl fo33_2 rfl) ?_
   refine o_unguard 17 rfl rfl ?_
   refine o_p (p_load (i := 0) (v := Vi s.value) rfl rfl sh3 rfl) ?_
   refine o_unguard 17 rfl rfl ?_
   refine o_call0 (v := .bool (Tab.okVal s.value)) rfl (tright_ok s.value) hf56 (fun _ _ => trivial) rfl ?_
   refine o_unguard 17 rfl rfl ?_
   refine o_p (p_not (b := (Tab.okVal s.value)) rfl) ?_
   refine o_pf rfl rfl rfl ?_
   exact o_sub (sr (Sub.skip rfl (Sub.skip rfl (Sub.skip rfl (Sub.skip rfl (Sub.skip rfl (Sub.skip rfl (Sub.refl _)))))))) hk
  ·intro hb4 hk
   refine o_guard_no rfl 17 rfl rfl rfl rfl rfl ?_
   refine o_guard_no rfl 17 rfl rfl rfl rfl rfl ?_
   refine o_guard_no rfl 17 rfl rfl rfl rfl rfl ?_
   refine o_guard_no rfl 17 rfl rfl rfl rfl rfl ?_
   refine o_pt rfl rfl rfl ?_
   exact o_sub (sr (Sub.skip rfl (Sub.skip rfl (Sub.skip rfl (Sub.skip rfl (Sub.skip rfl (Sub.skip rfl (Sub.refl _)))))))) hk
  refine o_as rfl rfl ?_
  refine o_nil (q_then ?_)
  refine c_cond rfl (fun hc5 => ?_) (fun hc5 => ?_)
  ·simp only [Bool.or_eq_true, decide_eq_true_eq, Bool.not_eq_true'] at hc5
   refine c_seq (c_region ?_)
   refine o_as rfl rfl ?_
   refine o_nil (q_then (c_ret ?_))
   refine q_block_ret (q_then_ret ?_)
   have hr0 : (3 : Int) = (Tab.one s) := by
    first | exact Tab.one1 (s := s) (by assumption) | exact Tab.one2 (s := s) (by assumption) (by assumption) | exact Tab.one3 (s := s) (by assumption) (by assumption)
   refine q_end0 (v := Vi 3) (rt1 rfl (r_tmp rfl)) (i := 1) rfl ?_
   exact (by have hcc := congrArg (fun (y0 : Int) => (.int .i64 y0 : Value)) hr0; exact hcc)
  ·simp only [Bool.or_eq_false_iff, decide_eq_false_iff_not, Int.not_lt, Bool.not_eq_false'] at hc5
   refine c_skip ?_
   refine q_block_normal (q_then ?_)
   refine c_seq (c_region ?_)
   refine o_as rfl rfl ?_
   refine o_nil (q_then (c_ret ?_))
   have hr0 : (0 : Int) = (Tab.one s) := by
    first | exact Tab.one1 (s := s) (by assumption) | exact Tab.one2 (s := s) (by assumption) (by assumption) | exact Tab.one3 (s := s) (by assumption) (by assumption)
   refine q_end0 (v := Vi 0) (rt1 rfl (r_tmp rfl)) (i := 1) rfl ?_
   exact (by have hcc := congrArg (fun (y0 : Int) => (.int .i64 y0 : Value)) hr0; exact hcc)

set_option maxHeartbeats 8000000 in
set_option maxRecDepth 100000 in
theorem round1_ok (slots : Int) (Ba : Nat) (from_ : Int) (Bb : Nat) (hy1 : 1 ≤ slots ∧ slots ≤ 64 ∧ 0 ≤ from_ ∧ from_ ≤ 64) : ItOk Try.prog 90 [.pointer (some ⟨Ba, 0, none⟩), .pointer (some ⟨Bb, 0, none⟩)] (fun e w => ((box Ba [Vi slots] 3).A w ∧ (outer w [e]).S Ba) ∧ ((box Bb [Vi from_] 3).A w ∧ (outer w [e]).S Bb)) Unit (fun x k => [Vi (Tab.place from_ slots k)]) (fun x k => []) (slots.toNat) := by
 refine fnIt (nt := 18) (F1 := [(1, .pointer (some ⟨Ba, 0, none⟩)), (2, .pointer (some ⟨Bb, 0, none⟩))]) Try.func90 rfl Try.ntmps90 rfl rfl ?_
 intro l_ φ ψ e0 w0 hpre hφ Y
 obtain ⟨hb_Ba, hb_Bb⟩ := hpre
 refine c_seq (c_region ?_)
 refine o_p (p_loadR (v := Vi slots) rfl (rbox_outer (i := 0) rfl hb_Ba) sh3 rfl) ?_
 refine o_mv rfl rfl ?_
 refine o_nil (q_then (c_block ?_))
 refine c_loop (St := Nat × Ent)
  (fun ⟨k, e⟩ => [(0, .func (.yield l_) #[] #[]), (1, .pointer (some ⟨Ba, 0, none⟩)), (2, .pointer (some ⟨Bb, 0, none⟩)), (5, Vi slots), (6, Vi (k : Int))])
  (fun ⟨k, e⟩ => [outer w0 [e0], e])
  (fun ⟨k, e⟩ => k ≤ slots.toNat ∧ φ k e)
  (fun ⟨k, e⟩ => slots.toNat - k)
  (0, e0) ?_ (sr (sr (sr (sr (sr (Sub.nil _)))))) (fun _ hw => hw) ?_
 ·exact ⟨Nat.zero_le _, hφ⟩
 rintro ⟨k, e⟩ hI K hK1
 show SC _ _ Try.prog 18 w0 _ _ [(0, .func (.yield l_) #[] #[]), (1, .pointer (some ⟨Ba, 0, none⟩)), (2, .pointer (some ⟨Bb, 0, none⟩)), (5, Vi slots), (6, Vi (k : Int))] [outer w0 [e0], e]
 refine c_seq (c_region ?_)
 refine o_p (p_lt rfl rfl) ?_
 refine o_nil (q_then (c_seq ?_))
 refine c_cond rfl (fun hc2 => ?_) (fun hc2 => ?_)
 ·simp only [decide_eq_true_eq] at hc2
  refine c_skip (q_then (c_seq (c_block (c_seq (c_region ?_)))))
  refine o_mv rfl rfl ?_
  refine o_as rfl rfl ?_
  refine o_nil (q_then (c_seq ?_))
  refine c_regionY ?_
  refine o_mv rfl rfl ?_
  refine o_p (p_loadR (v := Vi from_) rfl (rbox_outer (i := 0) rfl hb_Bb) sh3 rfl) ?_
  refine o_mv rfl rfl ?_
  refine o_p (p_addb rfl rfl (by omega)) ?_
  refine o_p (p_loadR (v := Vi slots) rfl (rbox_outer (i := 0) rfl hb_Ba) sh3 rfl) ?_
  refine o_p (p_rem (p := (from_ + (k : Int))) (q := slots) rfl rfl (by omega)) ?_
  refine o_yield (l := l_) (vs := [Vi ((from_ + (k : Int)).tmod slots)]) (φ := φ (k + 1)) (ψ := ψ) rfl rfl (fun W hW => Y () k e W (by omega) hI.2 hW) rfl (fun e_3 he4 => ?_) (fun e_3 he4 => ?_)
  ·have hend := he4
   refine o_p (p_not (b := true) rfl) ?_
   refine o_nil (q_then ?_)
   refine c_false rfl ?_
   refine c_skip ?_
   refine q_block_normal (q_then ?_)
   refine c_region ?_
   refine o_p (p_addb rfl rfl (by omega)) ?_
   refine o_mv rfl rfl ?_
   refine o_nil ?_
   refine q_round hK1 (k + 1, e_3) ?_ ?_ ?_ ?_
   ·clear hK1
    exact ⟨by omega, hend⟩
   ·(try dsimp only); omega
   ·exact sr (sr (sr (sr (sr (Sub.nil _)))))
   ·exact pk [0, 1]
  ·have hend := he4
   refine o_p (p_not (b := false) rfl) ?_
   refine o_nil (q_then ?_)
   refine c_true rfl ?_
   refine c_ret ?_
   refine q_block_ret (q_then_ret (q_then_ret (q_block_ret ?_)))
   refine q_endI (e := e_3) (rt0 rfl) ?_ (fun w hw => hw.pick (H' := [outer w0 [e0], e_3]) [0, 1] (by decide) rfl)
   first | exact .inr hend | exact .inl (it_fin hI.2 (by omega))
 ·simp only [decide_eq_false_iff_not, Int.not_lt] at hc2
  refine c_exit ?_
  refine q_then_exit (q_then_exit (q_block_exit ?_))
  refine q_endI (e := e) (rt0 rfl) ?_ (fun w hw => hw.pick (H' := [outer w0 [e0], e]) [0, 1] (by decide) rfl)
  first | exact .inr hend | exact .inl (it_fin hI.2 (by omega))

set_option maxHeartbeats 8000000 in
set_option maxRecDepth 100000 in
theorem tround_ok (slots : Int) (from_ : Int) : FnX Try.prog 59 [Vi slots, Vi from_] [] (fun _ => True) (Nat × Nat) (fun p => .func (.func 90) #[] #[.pointer (some ⟨p.1, 0, none⟩), .pointer (some ⟨p.2, 0, none⟩)]) (fun p => [box p.1 [Vi slots] 3, box p.2 [Vi from_] 3]) := by
 refine fnX (nt := 6) (F0 := [(0, Vi slots), (1, Vi from_)]) Try.func59 rfl Try.ntmps59 rfl rfl (fun w0 hpre => ?_)
 refine c_seq (c_region ?_)
 refine o_box (v := Vi slots) rfl rfl (fun B1 => ?_)
 refine o_box (v := Vi from_) rfl rfl (fun B2 => ?_)
 refine o_as rfl rfl ?_
 refine o_nil (q_then (c_seq (c_region ?_)))
 refine o_p (p_makeFunc (vs := [.pointer (some ⟨B1, 0, none⟩), .pointer (some ⟨B2, 0, none⟩)]) rfl) ?_
 refine o_as rfl rfl ?_
 refine o_nil (q_then (c_ret ?_))
 refine q_endX (p := (B1, B2)) (rt1 rfl (r_tmp rfl)) rfl (fun w hw => ?_)
 exact hw.pick (H' := [outer w0 [], box B1 [Vi slots] 3, box B2 [Vi from_] 3]) [2, 1, 0] (by decide) rfl
end Go.Proofs.Ythecfjipaepcgaa

/- The walks, printed by a program from the translation and a specification. -/
namespace Go.Proofs.Ythecfjipaepcgaa
open Go.Sx Go.RowKit
set_option maxHeartbeats 8000000 in
set_option maxRecDepth 100000 in
theorem treached_ok (tt : List DSlot) (att : Option Addr) (ctt : Nat) (i : Int) (hy1 : 0 ≤ i ∧ i < (tt.length : Int) ∧ tt.length ≤ 64 ∧ (tt.getD i.toNat default).key.size ≤ 40) : Fn0 Try.prog 66 [.slice att tt.length ctt, Vi i] (fun w => Rd tSlot w att ctt tt) (.bool (Tab.reached tt i)) := by
 refine fn0R (nt := 27) (F0 := [(0, .slice att tt.length ctt), (1, Vi i)]) Try.func66 rfl Try.ntmps66 rfl rfl (fun w0 hpre => ?_)
 have htt := hpre
 have hlhtt := htt.2.1
 have hhb := Tab.home_bd (tt.getD i.toNat default).key (n := (tt.length : Int)) (by omega)
 refine c_seq (c_region ?_)
 refine o_box (v := .slice att tt.length ctt) rfl rfl (fun B1 => ?_)
 refine o_box (v := Vi i) rfl rfl (fun B2 => ?_)
 refine o_alloc ze4 rfl (fun B3 => ?_)
 refine o_nil (q_then (c_seq (c_seq ?_)))
 refine c_cutN (G := Nat × Nat) (fun ⟨B4_10, B4_10_1⟩ => [(2, .pointer (some ⟨B1, 0, none⟩)), (3, .pointer (some ⟨B2, 0, none⟩)), (4, .pointer (some ⟨B3, 0, none⟩)), (16, .func (.func 90) #[] #[.pointer (some ⟨B4_10, 0, none⟩), .pointer (some ⟨B4_10_1, 0, none⟩)])]) (fun ⟨B4_10, B4_10_1⟩ => [box B4_10 [Vi (tt.length : Int)] 3, box B4_10_1 [Vi (Tab.home ((tt.getD i.toNat default).key) (tt.length : Int))] 3, box B3 [.bool false] 4, box B2 [Vi i] 3, box B1 [.slice att tt.length ctt] 22, base w0]) (fun K hK5 => ?_) ?_
 ·refine c_held hmix [box B3 [.bool false] 4, box B2 [Vi i] 3, box B1 [.slice att tt.length ctt] 22, base w0] rfl rfl ?_
  refine h_t0 (i := 0) (ls := #[T1,F0,F0,F0,F0,F0,F0,F0,F0,F0,F0]) rfl (p_load (i := 2) (v := .slice att tt.length ctt) rfl rfl sh22 rfl) ?_
  refine h_t0 (i := 1) (ls := #[T1,T1,F0,F0,F0,F0,F0,F0,F0,F0,F0]) rfl (p_len_slice rfl rfl Try.underlying22) ?_
  refine h_t0 (i := 2) (ls := #[T1,T1,T1,F0,F0,F0,F0,F0,F0,F0,F0]) rfl (p_load (i := 2) (v := .slice att tt.length ctt) rfl rfl sh22 rfl) ?_
  refine h_t0 (i := 3) (ls := #[T1,T1,T1,T1,F0,F0,F0,F0,F0,F0,F0]) rfl (p_load (i := 1) (v := Vi i) rfl rfl sh3 rfl) ?_
  refine h_t0 (i := 4) (ls := #[T1,T1,T1,T1,T1,F0,F0,F0,F0,F0,F0]) rfl (p_indexAddr (L := tt) (T := tSlot) (i := i) rfl rfl (rd_base (i := 3) rfl htt) Try.underlying22 sz33 (by omega) (by omega)) ?_
  refine h_t0 (i := 5) (ls := #[T1,T1,T1,T1,T1,T1,F0,F0,F0,F0,F0]) rfl (p_fieldAddrE rfl fo33_1) ?_
  refine h_t0 (i := 6) (ls := #[T1,T1,T1,T1,T1,T1,T1,F0,F0,F0,F0]) rfl (p_loadF (i := i.toNat) (j := 1) (T := tSlot) (L := tt) (v := .string ((tt.getD i.toNat default).key)) rfl (rd_base (i := 3) rfl htt) (by first | assumption | omega) sh9 (congrArg (fun z => (tSlot.enc z)[1]?) (getd_at (by first | assumption | omega) default))) ?_
  refine h_t0 (i := 7) (ls := #[T1,T1,T1,T1,T1,T1,T1,T1,F0,F0,F0]) rfl (p_load (i := 2) (v := .slice att tt.length ctt) rfl rfl sh22 rfl) ?_
  refine h_t0 (i := 8) (ls := #[T1,T1,T1,T1,T1,T1,T1,T1,T1,F0,F0]) rfl (p_len_slice rfl rfl Try.underlying22) ?_
  refine h_one (i := 9) (ls := #[T1,T1,T1,T1,T1,T1,T1,T1,T1,T1,F0]) (by kernel_rfl) rfl rfl ?_
  refine o_call0 (v := Vi (Tab.home ((tt.getD i.toNat default).key) (tt.length : Int))) rfl (thome_ok ((tt.getD i.toNat default).key) (tt.length : Int) (by first | assumption | omega | exact hy1.2.2.2 | exact hy1.2.2)) hf60 (fun _ _ => trivial) rfl ?_
  refine o_nil ?_
  refine h_next (dp (lr)) ?_
  refine h_one (i := 10) (ls := #[T1,T1,T1,T1,T1,T1,T1,T1,T1,T1,T1]) (by kernel_rfl) rfl rfl ?_
  refine o_callX (pre := []) (R := [box B3 [.bool false] 4, box B2 [Vi i] 3, box B1 [.slice att tt.length ctt] 22, base w0]) rfl (tround_ok (tt.length : Int) (Tab.home ((tt.getD i.toNat default).key) (tt.length : Int))) hf59 rfl (fun _ _ => trivial) rfl ?_
  rintro ⟨B4_10, B4_10_1⟩
  refine o_asH (H' := [box B4_10 [Vi (tt.length : Int)] 3, box B4_10_1 [Vi (Tab.home ((tt.getD i.toNat default).key) (tt.length : Int))] 3, box B3 [.bool false] 4, box B2 [Vi i] 3, box B1 [.slice att tt.length ctt] 22, base w0]) rfl ?_
  refine o_nil ?_
  refine h_next (dp (lz (lz (lj (lj (lj (lj (ln)))))))) ?_
  refine h_done (by kernel_rfl) ?_
  refine q_kontN hK5 (B4_10, B4_10_1) (sr (sr (sr (sr (Sub.nil _))))) (pk [0, 1, 2, 3, 4, 5])
 rintro ⟨B4_10, B4_10_1⟩
 show SQ _ 27 w0 _ _ [(2, .pointer (some ⟨B1, 0, none⟩)), (3, .pointer (some ⟨B2, 0, none⟩)), (4, .pointer (some ⟨B3, 0, none⟩)), (16, .func (.func 90) #[] #[.pointer (some ⟨B4_10, 0, none⟩), .pointer (some ⟨B4_10_1, 0, none⟩)])] [box B4_10 [Vi (tt.length : Int)] 3, box B4_10_1 [Vi (Tab.home ((tt.getD i.toNat default).key) (tt.length : Int))] 3, box B3 [.bool false] 4, box B2 [Vi i] 3, box B1 [.slice att tt.length ctt] 22, base w0]
 refine q_then (c_block ?_)
 refine c_rangeFunc (f := 90) (caps := [.pointer (some ⟨B4_10, 0, none⟩), .pointer (some ⟨B4_10_1, 0, none⟩)]) (Pr := (fun e w => ((box B4_10 [Vi (tt.length : Int)] 3).A w ∧ (outer w [e]).S B4_10) ∧ ((box B4_10_1 [Vi (Tab.home ((tt.getD i.toNat default).key) (tt.length : Int))] 3).A w ∧ (outer w [e]).S B4_10_1))) (X := Unit) (encs := (fun x k => [Vi (Tab.place (Tab.home ((tt.getD i.toNat default).key) (tt.length : Int)) (tt.length : Int) k)])) (E := (fun x k => [])) (N := (tt.length : Int).toNat) rfl hf90 (round1_ok (tt.length : Int) B4_10 (Tab.home ((tt.getD i.toNat default).key) (tt.length : Int)) B4_10_1 (by omega)) (fun _ _ => rfl) (by decide) (St := Bool)
  (fun rb => [box B3 [.bool rb] 4])
  (fun k rb => Tab.RI tt i k)
  (fun c rb => (c = .ret ∧ (rb = Tab.reached tt i)))
  [box B4_10 [Vi (tt.length : Int)] 3, box B4_10_1 [Vi (Tab.home ((tt.getD i.toNat default).key) (tt.length : Int))] 3, box B2 [Vi i] 3, box B1 [.slice att tt.length ctt] 22, base w0]
  false ?_ ?_ ?_ ?_ ?_ ?_
 ·exact Tab.RI.start tt i
 ·exact fun w hw => hw.pick (H' := [box B3 [.bool false] 4, box B4_10 [Vi (tt.length : Int)] 3, box B4_10_1 [Vi (Tab.home ((tt.getD i.toNat default).key) (tt.length : Int))] 3, box B2 [Vi i] 3, box B1 [.slice att tt.length ctt] 22, base w0]) [2, 0, 1, 3, 4, 5] (by decide) rfl
 ·intro D e0 W1 hW1
  exact ⟨boxX (i := 2) (js := [0]) rfl (by decide) rfl W1 hW1, boxX (i := 3) (js := [0]) rfl (by decide) rfl W1 hW1⟩
 ·rintro l_ rc D e0 W1 hW1 x_ k rb hk hI
  have hpb := Tab.place_bd (h := Tab.home (tt.getD i.toNat default).key (tt.length : Int)) (n := (tt.length : Int)) (by omega) (by omega) k
  have hor0_1 : SlR tSlot (outer W1 [e0]).S W1 att ctt tt := (rdX (i := 6) (js := [0]) rfl (by decide) rfl (fun _ hA => slR_base htt hA)) W1 hW1
  have hlhor0_1 := hor0_1.2.1
  have hobr0_B1 := boxX (i := 5) (B := B1) (cs := [.slice att tt.length ctt]) (U := 22) (js := [0]) (pre := [e0]) rfl (by decide) rfl W1 hW1
  have hobr0_B2 := boxX (i := 4) (B := B2) (cs := [Vi i]) (U := 3) (js := [0]) (pre := [e0]) rfl (by decide) rfl W1 hW1
  refine c_region ?_
  refine o_as rfl rfl ?_
  refine o_nil ?_
  refine q_begin (i := 1) rfl ?_
  refine c_block (c_seq (c_seq (c_region ?_)))
  refine o_mv rfl rfl ?_
  refine o_p (p_loadR (v := Vi i) rfl (rbox_outer (i := 0) rfl hobr0_B2) sh3 rfl) ?_
  refine o_p (p_eq rfl rfl) ?_
  refine o_nil (q_then ?_)
  refine c_cond rfl (fun hc6 => ?_) (fun hc6 => ?_)
  ·simp only [beq_iff_eq] at hc6
   refine c_seq (c_region ?_)
   refine o_store (i := 2) (v := .bool true) (cs' := [.bool true]) rfl rfl rfl sz4 rfl rfl rfl ?_
   refine o_nil (q_then (c_ret ?_))
   refine q_then_ret (q_block_ret ?_)
   refine q_leave true ?_ (fun w hw => hw.pick (H' := [outer W1 [e0], loopE l_ (recd rc .busy none), box B3 [.bool true] 4]) [0, 1, 2] (by decide) rfl)
   refine ⟨rfl, ?_⟩
   first | exact hI.yes (by omega) (by assumption) | exact hI.no (by omega) (by assumption) hu
  ·simp only [beq_eq_false_iff_ne, ne_eq] at hc6
   refine c_skip (q_then (c_seq (c_region ?_)))
   refine o_p (p_loadR (v := .slice att tt.length ctt) rfl (rbox_outer (i := 0) rfl hobr0_B1) sh22 rfl) ?_
   refine o_mv rfl rfl ?_
   refine o_p (p_indexAddr (L := tt) (T := tSlot) (i := (Tab.place (Tab.home ((tt.getD i.toNat default).key) (tt.length : Int)) (tt.length : Int) k)) rfl rfl (rd_outer (i := 0) rfl hor0_1) Try.underlying22 sz33 (by omega) (by omega)) ?_
   refine o_p (p_fieldAddrE rfl fo33_0) ?_
   refine o_p (p_loadF (i := (Tab.place (Tab.home ((tt.getD i.toNat default).key) (tt.length : Int)) (tt.length : Int) k).toNat) (j := 0) (T := tSlot) (L := tt) (v := .bool ((tt.getD ((Tab.place (Tab.home ((tt.getD i.toNat default).key) (tt.length : Int)) (tt.length : Int) k).toNat) default).used)) rfl (rd_outer (i := 0) rfl hor0_1) (by first | assumption | omega) sh4 (congrArg (fun z => (tSlot.enc z)[0]?) (getd_at (by first | assumption | omega) default))) ?_
   refine o_p (p_not (b := (tt.getD ((Tab.place (Tab.home ((tt.getD i.toNat default).key) (tt.length : Int)) (tt.length : Int) k).toNat) default).used) rfl) ?_
   refine o_nil (q_then ?_)
   refine c_cond rfl (fun hc7 => ?_) (fun hc7 => ?_)
   ·simp only [Bool.not_eq_true'] at hc7
    have hu := hc7
    refine c_seq (c_region ?_)
    refine o_store (i := 2) (v := .bool false) (cs' := [.bool false]) rfl rfl rfl sz4 rfl rfl rfl ?_
    refine o_nil (q_then (c_ret ?_))
    refine q_block_ret ?_
    refine q_leave false ?_ (fun w hw => hw.pick (H' := [outer W1 [e0], loopE l_ (recd rc .busy none), box B3 [.bool false] 4]) [0, 1, 2] (by decide) rfl)
    refine ⟨rfl, ?_⟩
    first | exact hI.yes (by omega) (by assumption) | exact hI.no (by omega) (by assumption) hu
   ·simp only [Bool.not_eq_false'] at hc7
    have hu := hc7
    refine c_skip ?_
    refine q_block_normal ?_
    refine q_next rb ?_ (fun w hw => hw.pick (H' := [outer W1 [e0], loopE l_ (recd rc .busy none), box B3 [.bool rb] 4]) [0, 1, 2] (by decide) rfl)
    exact hI.next (by omega) (by assumption) hu
 ·rintro D rb hI
  show SQ _ 27 w0 _ _ _ [defE D, box B3 [.bool rb] 4, box B4_10 [Vi (tt.length : Int)] 3, box B4_10_1 [Vi (Tab.home ((tt.getD i.toNat default).key) (tt.length : Int))] 3, box B2 [Vi i] 3, box B1 [.slice att tt.length ctt] 22, base w0]
  refine q_block_normal (q_then ?_)
  refine c_seq (c_region ?_)
  refine o_store (i := 1) (v := .bool false) (cs' := [.bool false]) rfl rfl rfl sz4 rfl rfl rfl ?_
  refine o_nil (q_then (c_ret ?_))
  refine q_marks (i := 0) rfl ?_
  show SQ _ 27 w0 _ _ _ [box B3 [.bool false] 4, box B4_10 [Vi (tt.length : Int)] 3, box B4_10_1 [Vi (Tab.home ((tt.getD i.toNat default).key) (tt.length : Int))] 3, box B2 [Vi i] 3, box B1 [.slice att tt.length ctt] 22, base w0]
  refine q_marks0 ?_
  have hr0 : (false : Bool) = (Tab.reached tt i) := by
   first | exact hI | exact hI.done (by omega)
  refine q_end0 (v := .bool false) (rt1 rfl (r_cell1 (i := 0) rfl rfl sh4)) (i := 5) rfl ?_
  exact (by have hcc := congrArg (fun (y0 : Bool) => (.bool y0 : Value)) hr0; exact hcc)
 ·rintro D c rb hx
  rcases hx with ⟨rfl, hI⟩
  ·show SC _ _ Try.prog 27 w0 _ _ _ [defE D, box B3 [.bool rb] 4, box B4_10 [Vi (tt.length : Int)] 3, box B4_10_1 [Vi (Tab.home ((tt.getD i.toNat default).key) (tt.length : Int))] 3, box B2 [Vi i] 3, box B1 [.slice att tt.length ctt] 22, base w0]
   refine c_ret ?_
   refine q_block_ret (q_then_ret ?_)
   refine q_marks (i := 0) rfl ?_
   show SQ _ 27 w0 _ _ _ [box B3 [.bool rb] 4, box B4_10 [Vi (tt.length : Int)] 3, box B4_10_1 [Vi (Tab.home ((tt.getD i.toNat default).key) (tt.length : Int))] 3, box B2 [Vi i] 3, box B1 [.slice att tt.length ctt] 22, base w0]
   refine q_marks0 ?_
   have hr0 : (rb : Bool) = (Tab.reached tt i) := by
    first | exact hI | exact hI.done (by omega)
   refine q_end0 (v := .bool rb) (rt1 rfl (r_cell1 (i := 0) rfl rfl sh4)) (i := 5) rfl ?_
   exact (by have hcc := congrArg (fun (y0 : Bool) => (.bool y0 : Value)) hr0; exact hcc)

set_option maxHeartbeats 8000000 in
set_option maxRecDepth 100000 in
theorem tfind_ok (tt : List DSlot) (att : Option Addr) (ctt : Nat) (key : ByteArray) (hy1 : 1 ≤ tt.length ∧ tt.length ≤ 64 ∧ key.size ≤ 40) : Fn0 Try.prog 55 [.slice att tt.length ctt, .string key] (fun w => Rd tSlot w att ctt tt) (.tuple #[Vi ((Tab.find tt key).1), Vi ((Tab.find tt key).2)]) := by
 refine fn0R (nt := 35) (F0 := [(0, .slice att tt.length ctt), (1, .string key)]) Try.func55 rfl Try.ntmps55 rfl rfl (fun w0 hpre => ?_)
 have htt := hpre
 have hlhtt := htt.2.1
 have hhb := Tab.home_bd key (n := (tt.length : Int)) (by omega)
 refine c_seq (c_region ?_)
 refine o_box (v := .slice att tt.length ctt) rfl rfl (fun B1 => ?_)
 refine o_box (v := .string key) rfl rfl (fun B2 => ?_)
 refine o_alloc ze3 rfl (fun B3 => ?_)
 refine o_alloc ze3 rfl (fun B4 => ?_)
 refine o_nil (q_then (c_seq (c_region ?_)))
 refine o_alloc ze3 rfl (fun B5 => ?_)
 refine o_store (i := 0) (v := Vi 0) (cs' := [Vi 0]) rfl rfl rfl sz3 rfl rfl rfl ?_
 refine o_nil (q_then (c_seq (c_seq ?_)))
 refine c_cutN (G := Nat × Nat) (fun ⟨B6_6, B6_6_1⟩ => [(2, .pointer (some ⟨B1, 0, none⟩)), (3, .pointer (some ⟨B2, 0, none⟩)), (4, .pointer (some ⟨B3, 0, none⟩)), (5, .pointer (some ⟨B4, 0, none⟩)), (6, .pointer (some ⟨B5, 0, none⟩)), (14, .func (.func 90) #[] #[.pointer (some ⟨B6_6, 0, none⟩), .pointer (some ⟨B6_6_1, 0, none⟩)])]) (fun ⟨B6_6, B6_6_1⟩ => [box B6_6 [Vi (tt.length : Int)] 3, box B6_6_1 [Vi (Tab.home key (tt.length : Int))] 3, box B5 [Vi 0] 3, box B4 [Vi 0] 3, box B3 [Vi 0] 3, box B2 [.string key] 9, box B1 [.slice att tt.length ctt] 22, base w0]) (fun K hK7 => ?_) ?_
 ·refine c_held hmix [box B5 [Vi 0] 3, box B4 [Vi 0] 3, box B3 [Vi 0] 3, box B2 [.string key] 9, box B1 [.slice att tt.length ctt] 22, base w0] rfl rfl ?_
  refine h_t0 (i := 0) (ls := #[T1,F0,F0,F0,F0,F0,F0]) rfl (p_load (i := 4) (v := .slice att tt.length ctt) rfl rfl sh22 rfl) ?_
  refine h_t0 (i := 1) (ls := #[T1,T1,F0,F0,F0,F0,F0]) rfl (p_len_slice rfl rfl Try.underlying22) ?_
  refine h_t0 (i := 2) (ls := #[T1,T1,T1,F0,F0,F0,F0]) rfl (p_load (i := 3) (v := .string key) rfl rfl sh9 rfl) ?_
  refine h_t0 (i := 3) (ls := #[T1,T1,T1,T1,F0,F0,F0]) rfl (p_load (i := 4) (v := .slice att tt.length ctt) rfl rfl sh22 rfl) ?_
  refine h_t0 (i := 4) (ls := #[T1,T1,T1,T1,T1,F0,F0]) rfl (p_len_slice rfl rfl Try.underlying22) ?_
  refine h_one (i := 5) (ls := #[T1,T1,T1,T1,T1,T1,F0]) (by kernel_rfl) rfl rfl ?_
  refine o_call0 (v := Vi (Tab.home key (tt.length : Int))) rfl (thome_ok key (tt.length : Int) (by first | assumption | omega | exact hy1.2.2.2 | exact hy1.2.2)) hf60 (fun _ _ => trivial) rfl ?_
  refine o_nil ?_
  refine h_next (dp (lr)) ?_
  refine h_one (i := 6) (ls := #[T1,T1,T1,T1,T1,T1,T1]) (by kernel_rfl) rfl rfl ?_
  refine o_callX (pre := []) (R := [box B5 [Vi 0] 3, box B4 [Vi 0] 3, box B3 [Vi 0] 3, box B2 [.string key] 9, box B1 [.slice att tt.length ctt] 22, base w0]) rfl (tround_ok (tt.length : Int) (Tab.home key (tt.length : Int))) hf59 rfl (fun _ _ => trivial) rfl ?_
  rintro ⟨B6_6, B6_6_1⟩
  refine o_asH (H' := [box B6_6 [Vi (tt.length : Int)] 3, box B6_6_1 [Vi (Tab.home key (tt.length : Int))] 3, box B5 [Vi 0] 3, box B4 [Vi 0] 3, box B3 [Vi 0] 3, box B2 [.string key] 9, box B1 [.slice att tt.length ctt] 22, base w0]) rfl ?_
  refine o_nil ?_
  refine h_next (dp (lz (lz (lj (lj (lj (lj (lj (lj (ln)))))))))) ?_
  refine h_done (by kernel_rfl) ?_
  refine q_kontN hK7 (B6_6, B6_6_1) (sr (sr (sr (sr (sr (sr (Sub.nil _))))))) (pk [0, 1, 2, 3, 4, 5, 6, 7])
 rintro ⟨B6_6, B6_6_1⟩
 show SQ _ 35 w0 _ _ [(2, .pointer (some ⟨B1, 0, none⟩)), (3, .pointer (some ⟨B2, 0, none⟩)), (4, .pointer (some ⟨B3, 0, none⟩)), (5, .pointer (some ⟨B4, 0, none⟩)), (6, .pointer (some ⟨B5, 0, none⟩)), (14, .func (.func 90) #[] #[.pointer (some ⟨B6_6, 0, none⟩), .pointer (some ⟨B6_6_1, 0, none⟩)])] [box B6_6 [Vi (tt.length : Int)] 3, box B6_6_1 [Vi (Tab.home key (tt.length : Int))] 3, box B5 [Vi 0] 3, box B4 [Vi 0] 3, box B3 [Vi 0] 3, box B2 [.string key] 9, box B1 [.slice att tt.length ctt] 22, base w0]
 refine q_then (c_block ?_)
 refine c_rangeFunc (f := 90) (caps := [.pointer (some ⟨B6_6, 0, none⟩), .pointer (some ⟨B6_6_1, 0, none⟩)]) (Pr := (fun e w => ((box B6_6 [Vi (tt.length : Int)] 3).A w ∧ (outer w [e]).S B6_6) ∧ ((box B6_6_1 [Vi (Tab.home key (tt.length : Int))] 3).A w ∧ (outer w [e]).S B6_6_1))) (X := Unit) (encs := (fun x k => [Vi (Tab.place (Tab.home key (tt.length : Int)) (tt.length : Int) k)])) (E := (fun x k => [])) (N := (tt.length : Int).toNat) rfl hf90 (round1_ok (tt.length : Int) B6_6 (Tab.home key (tt.length : Int)) B6_6_1 (by omega)) (fun _ _ => rfl) (by decide) (St := Int × Int × Int)
  (fun ⟨ra, rb, lk⟩ => [box B5 [Vi lk] 3, box B4 [Vi rb] 3, box B3 [Vi ra] 3])
  (fun k ⟨ra, rb, lk⟩ => Tab.FI tt key k ∧ lk = (k : Int))
  (fun c ⟨ra, rb, lk⟩ => (c = .ret ∧ ((ra, rb) = Tab.find tt key)))
  [box B6_6 [Vi (tt.length : Int)] 3, box B6_6_1 [Vi (Tab.home key (tt.length : Int))] 3, box B2 [.string key] 9, box B1 [.slice att tt.length ctt] 22, base w0]
  (0, 0, 0) ?_ ?_ ?_ ?_ ?_ ?_
 ·exact ⟨Tab.FI.start tt key, rfl⟩
 ·exact fun w hw => hw.pick (H' := [box B5 [Vi 0] 3, box B4 [Vi 0] 3, box B3 [Vi 0] 3, box B6_6 [Vi (tt.length : Int)] 3, box B6_6_1 [Vi (Tab.home key (tt.length : Int))] 3, box B2 [.string key] 9, box B1 [.slice att tt.length ctt] 22, base w0]) [2, 3, 4, 0, 1, 5, 6, 7] (by decide) rfl
 ·intro D e0 W1 hW1
  exact ⟨boxX (i := 2) (js := [0]) rfl (by decide) rfl W1 hW1, boxX (i := 3) (js := [0]) rfl (by decide) rfl W1 hW1⟩
 ·rintro l_ rc D e0 W1 hW1 x_ k ⟨ra, rb, lk⟩ hk hI
  have hpb := Tab.place_bd (h := Tab.home key (tt.length : Int)) (n := (tt.length : Int)) (by omega) (by omega) k
  obtain ⟨hI1, hI2⟩ := id hI
  have hor0_1 : SlR tSlot (outer W1 [e0]).S W1 att ctt tt := (rdX (i := 6) (js := [0]) rfl (by decide) rfl (fun _ hA => slR_base htt hA)) W1 hW1
  have hlhor0_1 := hor0_1.2.1
  have hobr0_B1 := boxX (i := 5) (B := B1) (cs := [.slice att tt.length ctt]) (U := 22) (js := [0]) (pre := [e0]) rfl (by decide) rfl W1 hW1
  have hobr0_B2 := boxX (i := 4) (B := B2) (cs := [.string key]) (U := 9) (js := [0]) (pre := [e0]) rfl (by decide) rfl W1 hW1
  refine c_region ?_
  refine o_as rfl rfl ?_
  refine o_nil ?_
  refine q_begin (i := 1) rfl ?_
  refine c_block (c_seq (c_region ?_))
  refine o_p (p_load (i := 2) (v := Vi lk) rfl rfl sh3 rfl) ?_
  refine o_p (p_addb rfl rfl (by omega)) ?_
  refine o_store (i := 2) (v := Vi (lk + 1)) (cs' := [Vi (lk + 1)]) rfl rfl rfl sz3 rfl rfl rfl ?_
  refine o_nil (q_then (c_block (c_seq (c_region ?_))))
  refine o_p (p_loadR (v := .slice att tt.length ctt) rfl (rbox_outer (i := 0) rfl hobr0_B1) sh22 rfl) ?_
  refine o_mv rfl rfl ?_
  refine o_p (p_indexAddr (L := tt) (T := tSlot) (i := (Tab.place (Tab.home key (tt.length : Int)) (tt.length : Int) k)) rfl rfl (rd_outer (i := 0) rfl hor0_1) Try.underlying22 sz33 (by omega) (by omega)) ?_
  refine o_p (p_fieldAddrE rfl fo33_0) ?_
  refine o_p (p_loadF (i := (Tab.place (Tab.home key (tt.length : Int)) (tt.length : Int) k).toNat) (j := 0) (T := tSlot) (L := tt) (v := .bool ((tt.getD ((Tab.place (Tab.home key (tt.length : Int)) (tt.length : Int) k).toNat) default).used)) rfl (rd_outer (i := 0) rfl hor0_1) (by first | assumption | omega) sh4 (congrArg (fun z => (tSlot.enc z)[0]?) (getd_at (by first | assumption | omega) default))) ?_
  refine o_p (p_not (b := (tt.getD ((Tab.place (Tab.home key (tt.length : Int)) (tt.length : Int) k).toNat) default).used) rfl) ?_
  refine o_as rfl rfl ?_
  refine o_nil (q_then ?_)
  refine c_cond rfl (fun hc8 => ?_) (fun hc8 => ?_)
  ·simp only [Bool.not_eq_true'] at hc8
   have hu := hc8
   refine c_seq (c_region ?_)
   refine o_store (i := 4) (v := Vi (-1)) (cs' := [Vi (-1)]) rfl rfl rfl sz3 rfl rfl rfl ?_
   refine o_store (i := 3) (v := Vi 0) (cs' := [Vi 0]) rfl rfl rfl sz3 rfl rfl rfl ?_
   refine o_nil (q_then (c_ret ?_))
   refine q_block_ret (q_block_ret ?_)
   refine q_leave ((-1), 0, (lk + 1)) ?_ (fun w hw => hw.pick (H' := [outer W1 [e0], loopE l_ (recd rc .busy none), box B5 [Vi (lk + 1)] 3, box B4 [Vi 0] 3, box B3 [Vi (-1)] 3]) [0, 1, 2, 3, 4] (by decide) rfl)
   refine ⟨rfl, ?_⟩
   first | exact hI1.none_ (by omega) hu | (rw [hI2]; exact hI1.here (by omega) hu hke)
  ·simp only [Bool.not_eq_false'] at hc8
   have hu := hc8
   refine c_seq ?_
   refine c_drawR hmix (by decide) (fun _ _ h => h) (by kernel_rfl) ?_
   refine w_p (p_loadR (v := .slice att tt.length ctt) rfl (rbox_outer (i := 0) rfl hobr0_B1) sh22 rfl) ?_
   refine w_mv rfl rfl ?_
   refine w_p (p_indexAddr (L := tt) (T := tSlot) (i := (Tab.place (Tab.home key (tt.length : Int)) (tt.length : Int) k)) rfl rfl (rd_outer (i := 0) rfl hor0_1) Try.underlying22 sz33 (by omega) (by omega)) ?_
   refine w_p (p_fieldAddrE rfl fo33_1) ?_
   refine w_p (p_loadF (i := (Tab.place (Tab.home key (tt.length : Int)) (tt.length : Int) k).toNat) (j := 1) (T := tSlot) (L := tt) (v := .string ((tt.getD ((Tab.place (Tab.home key (tt.length : Int)) (tt.length : Int) k).toNat) default).key)) rfl (rd_outer (i := 0) rfl hor0_1) (by first | assumption | omega) sh9 (congrArg (fun z => (tSlot.enc z)[1]?) (getd_at (by first | assumption | omega) default))) ?_
   refine w_p (p_loadR (v := .string key) rfl (rbox_outer (i := 0) rfl hobr0_B2) sh9 rfl) ?_
   refine w_p (p_eqStr (s := (tt.getD ((Tab.place (Tab.home key (tt.length : Int)) (tt.length : Int) k).toNat) default).key) (t := key) rfl rfl) ?_
   refine w_p (p_assign rfl) ?_
   refine w_nil (q_then ?_)
   refine c_cond rfl (fun hc9 => ?_) (fun hc9 => ?_)
   ·simp only [decide_eq_true_eq] at hc9
    have hke := hc9
    refine c_seq ?_
    refine c_heldR hmix (by decide) (fun _ _ h => h) [outer W1 [e0], loopE l_ (recd rc .busy none), box B5 [Vi (lk + 1)] 3] rfl rfl ?_
    refine h_tk (i := 0) (ls := #[T1,F0,F0,F0]) rfl (p_move rfl) (dp (lj (lj (lj (lz (lz (ln))))))) ?_
    refine h_tk (i := 1) (ls := #[T1,T1,F0,F0]) rfl (p_load (i := 2) (v := Vi (lk + 1)) rfl rfl sh3 rfl) (dp (lj (lj (lj (lz (lz (ln))))))) ?_
    refine h_one (i := 2) (ls := #[T1,T1,T1,F0]) (by kernel_rfl) rfl rfl ?_
    refine o_store (i := 4) (v := Vi (Tab.place (Tab.home key (tt.length : Int)) (tt.length : Int) k)) (cs' := [Vi (Tab.place (Tab.home key (tt.length : Int)) (tt.length : Int) k)]) rfl rfl rfl sz3 rfl rfl rfl ?_
    refine o_nil ?_
    refine h_next (dp (lj (lj (lj (lz (lz (ln))))))) ?_
    refine h_one (i := 3) (ls := #[T1,T1,T1,T1]) (by kernel_rfl) rfl rfl ?_
    refine o_store (i := 3) (v := Vi (lk + 1)) (cs' := [Vi (lk + 1)]) rfl rfl rfl sz3 rfl rfl rfl ?_
    refine o_nil ?_
    refine h_next (dp (lj (lj (lj (lz (lz (ln))))))) ?_
    refine h_done (by kernel_rfl) ?_
    refine q_then (c_ret ?_)
    refine q_block_ret (q_block_ret ?_)
    refine q_leave ((Tab.place (Tab.home key (tt.length : Int)) (tt.length : Int) k), (lk + 1), (lk + 1)) ?_ (fun w hw => hw.pick (H' := [outer W1 [e0], loopE l_ (recd rc .busy none), box B5 [Vi (lk + 1)] 3, box B4 [Vi (lk + 1)] 3, box B3 [Vi (Tab.place (Tab.home key (tt.length : Int)) (tt.length : Int) k)] 3]) [0, 1, 2, 3, 4] (by decide) rfl)
    refine ⟨rfl, ?_⟩
    first | exact hI1.none_ (by omega) hu | (rw [hI2]; exact hI1.here (by omega) hu hke)
   ·simp only [decide_eq_false_iff_not] at hc9
    have hke := hc9
    refine c_skip ?_
    refine q_block_normal (q_block_normal ?_)
    refine q_next (ra, rb, (lk + 1)) ?_ (fun w hw => hw.pick (H' := [outer W1 [e0], loopE l_ (recd rc .busy none), box B5 [Vi (lk + 1)] 3, box B4 [Vi rb] 3, box B3 [Vi ra] 3]) [0, 1, 2, 3, 4] (by decide) rfl)
    exact ⟨hI1.next (by omega) hu hke, by omega⟩
 ·rintro D ⟨ra, rb, lk⟩ hI
  show SQ _ 35 w0 _ _ _ [defE D, box B5 [Vi lk] 3, box B4 [Vi rb] 3, box B3 [Vi ra] 3, box B6_6 [Vi (tt.length : Int)] 3, box B6_6_1 [Vi (Tab.home key (tt.length : Int))] 3, box B2 [.string key] 9, box B1 [.slice att tt.length ctt] 22, base w0]
  refine q_block_normal (q_then ?_)
  refine c_seq (c_region ?_)
  refine o_store (i := 3) (v := Vi (-1)) (cs' := [Vi (-1)]) rfl rfl rfl sz3 rfl rfl rfl ?_
  refine o_store (i := 2) (v := Vi 0) (cs' := [Vi 0]) rfl rfl rfl sz3 rfl rfl rfl ?_
  refine o_nil (q_then (c_ret ?_))
  refine q_marks (i := 0) rfl ?_
  show SQ _ 35 w0 _ _ _ [box B5 [Vi lk] 3, box B4 [Vi 0] 3, box B3 [Vi (-1)] 3, box B6_6 [Vi (tt.length : Int)] 3, box B6_6_1 [Vi (Tab.home key (tt.length : Int))] 3, box B2 [.string key] 9, box B1 [.slice att tt.length ctt] 22, base w0]
  refine q_marks0 ?_
  have hr0 : ((-1) : Int) = ((Tab.find tt key).1) := by
   first | exact congrArg Prod.fst hI | exact congrArg Prod.snd hI | exact congrArg Prod.fst (hI.1.done (by omega)) | exact congrArg Prod.snd (hI.1.done (by omega))
  have hr1 : (0 : Int) = ((Tab.find tt key).2) := by
   first | exact congrArg Prod.fst hI | exact congrArg Prod.snd hI | exact congrArg Prod.fst (hI.1.done (by omega)) | exact congrArg Prod.snd (hI.1.done (by omega))
  refine q_end0 (v := .tuple #[Vi (-1), Vi 0]) (rt2 rfl (r_cell1 (i := 2) rfl rfl sh3) (r_cell1 (i := 1) rfl rfl sh3)) (i := 7) rfl ?_
  exact (by have hcc := congr (congrArg (fun (y0 : Int) (y1 : Int) => (.tuple #[.int .i64 y0, .int .i64 y1] : Value)) hr0) hr1; exact hcc)
 ·rintro D c ⟨ra, rb, lk⟩ hx
  rcases hx with ⟨rfl, hI⟩
  ·show SC _ _ Try.prog 35 w0 _ _ _ [defE D, box B5 [Vi lk] 3, box B4 [Vi rb] 3, box B3 [Vi ra] 3, box B6_6 [Vi (tt.length : Int)] 3, box B6_6_1 [Vi (Tab.home key (tt.length : Int))] 3, box B2 [.string key] 9, box B1 [.slice att tt.length ctt] 22, base w0]
   refine c_ret ?_
   refine q_block_ret (q_then_ret ?_)
   refine q_marks (i := 0) rfl ?_
   show SQ _ 35 w0 _ _ _ [box B5 [Vi lk] 3, box B4 [Vi rb] 3, box B3 [Vi ra] 3, box B6_6 [Vi (tt.length : Int)] 3, box B6_6_1 [Vi (Tab.home key (tt.length : Int))] 3, box B2 [.string key] 9, box B1 [.slice att tt.length ctt] 22, base w0]
   refine q_marks0 ?_
   have hr0 : (ra : Int) = ((Tab.find tt key).1) := by
    first | exact congrArg Prod.fst hI | exact congrArg Prod.snd hI | exact congrArg Prod.fst (hI.1.done (by omega)) | exact congrArg Prod.snd (hI.1.done (by omega))
   have hr1 : (rb : Int) = ((Tab.find tt key).2) := by
    first | exact congrArg Prod.fst hI | exact congrArg Prod.snd hI | exact congrArg Prod.fst (hI.1.done (by omega)) | exact congrArg Prod.snd (hI.1.done (by omega))
   refine q_end0 (v := .tuple #[Vi ra, Vi rb]) (rt2 rfl (r_cell1 (i := 2) rfl rfl sh3) (r_cell1 (i := 1) rfl rfl sh3)) (i := 7) rfl ?_
   exact (by have hcc := congr (congrArg (fun (y0 : Int) (y1 : Int) => (.tuple #[.int .i64 y0, .int .i64 y1] : Value)) hr0) hr1; exact hcc)

set_option maxHeartbeats 8000000 in
set_option maxRecDepth 100000 in
theorem tcheck_ok (tt : List DSlot) (att : Option Addr) (ctt : Nat) : Fn0 Try.prog 25 [.slice att tt.length ctt] (fun w => Rd tSlot w att ctt tt) (Vi (Tab.check tt)) := by
 refine fn0 (nt := 63) (F0 := [(0, .slice att tt.length ctt)]) Try.func25 rfl Try.ntmps25 rfl rfl (fun w0 hpre => ?_)
 have htt := hpre
 have hlhtt := htt.2.1
 refine c_seq (c_region ?_)
 refine o_as rfl rfl ?_
 refine o_nil (q_then (c_seq (c_block (c_seq (c_region ?_)))))
 refine o_mv rfl rfl ?_
 refine o_p (p_len_slice rfl rfl Try.underlying22) ?_
 refine o_p (p_eq rfl rfl) ?_
 refine o_as rfl rfl ?_
 refine o_nil (q_then ?_)
 refine c_cond rfl (fun hc1 => ?_) (fun hc1 => ?_)
 ·simp only [beq_iff_eq] at hc1
  refine c_seq (c_region ?_)
  refine o_as rfl rfl ?_
  refine o_nil (q_then (c_ret ?_))
  refine q_block_ret (q_then_ret ?_)
  have hr0 : (1 : Int) = (Tab.check tt) := by
   first | exact Tab.ck1 (by omega) | exact Tab.ck2 (by omega) | exact Tab.ck3 (by omega) (by omega) (hI1.bad (by omega) ho) ho | exact Tab.ck3 (by omega) (by omega) (hI1.twice (by omega) ho hu ((hI2 _).1 (by assumption))) (by decide) | exact Tab.ck4 (by omega) (by omega) hz (hI.bad2 (by omega) hu) | exact Tab.ck4 (by omega) (by omega) hz (hI.done (by omega))
  refine q_end0 (v := Vi 1) (rt1 rfl (r_tmp rfl)) (i := 0) rfl ?_
  exact (by have hcc := congrArg (fun (y0 : Int) => (.int .i64 y0 : Value)) hr0; exact hcc)
 ·simp only [beq_eq_false_iff_ne, ne_eq] at hc1
  refine c_seq (c_region ?_)
  refine o_mv rfl rfl ?_
  refine o_p (p_len_slice rfl rfl Try.underlying22) ?_
  refine o_p (p_gt rfl rfl) ?_
  refine o_as rfl rfl ?_
  refine o_nil (q_then ?_)
  refine c_cond rfl (fun hc2 => ?_) (fun hc2 => ?_)
  ·simp only [decide_eq_true_eq] at hc2
   refine c_seq (c_region ?_)
   refine o_as rfl rfl ?_
   refine o_nil (q_then (c_ret ?_))
   refine q_block_ret (q_then_ret ?_)
   have hr0 : (2 : Int) = (Tab.check tt) := by
    first | exact Tab.ck1 (by omega) | exact Tab.ck2 (by omega) | exact Tab.ck3 (by omega) (by omega) (hI1.bad (by omega) ho) ho | exact Tab.ck3 (by omega) (by omega) (hI1.twice (by omega) ho hu ((hI2 _).1 (by assumption))) (by decide) | exact Tab.ck4 (by omega) (by omega) hz (hI.bad2 (by omega) hu) | exact Tab.ck4 (by omega) (by omega) hz (hI.done (by omega))
   refine q_end0 (v := Vi 2) (rt1 rfl (r_tmp rfl)) (i := 0) rfl ?_
   exact (by have hcc := congrArg (fun (y0 : Int) => (.int .i64 y0 : Value)) hr0; exact hcc)
  ·simp only [decide_eq_false_iff_not, Int.not_lt] at hc2
   refine c_skip ?_
   refine q_block_normal (q_then ?_)
   refine c_seq (c_region ?_)
   refine o_makeMap (ν := Unit) kStr (fun _ => .agg #[]) rfl (fun B3 => ?_)
   refine o_as rfl rfl ?_
   refine o_nil (q_then (c_seq (c_seq (c_region ?_))))
   refine o_mv rfl rfl ?_
   refine o_p (p_len_slice rfl rfl Try.underlying22) ?_
   refine o_mv rfl rfl ?_
   refine o_nil (q_then (c_block ?_))
   refine c_loop (St := Nat × List (ByteArray × Unit))
    (fun ⟨k, m⟩ => [(0, .slice att tt.length ctt), (3, .map (some B3)), (20, .slice att tt.length ctt), (21, Vi (tt.length : Int)), (22, Vi (k : Int))])
    (fun ⟨k, m⟩ => [mapE kStr (fun _ => .agg #[]) B3 m, base w0])
    (fun ⟨k, m⟩ => Tab.CI tt k ∧ Tab.Seen m tt k)
    (fun ⟨k, m⟩ => tt.length - k)
    (0, []) ?_ (sr (sr (sr (sr (sr (Sub.nil _)))))) (fun _ hw => hw) ?_
   ·exact ⟨Tab.CI.start tt, Tab.Seen.start tt⟩
   rintro ⟨k, m⟩ hI K hK4
   obtain ⟨hI1, hI2⟩ := hI
   have hle := hI1.le
   show SC _ _ Try.prog 63 w0 _ _ [(0, .slice att tt.length ctt), (3, .map (some B3)), (20, .slice att tt.length ctt), (21, Vi (tt.length : Int)), (22, Vi (k : Int))] [mapE kStr (fun _ => .agg #[]) B3 m, base w0]
   refine c_seq (c_region ?_)
   refine o_p (p_lt rfl rfl) ?_
   refine o_nil (q_then (c_seq ?_))
   refine c_cond rfl (fun hc5 => ?_) (fun hc5 => ?_)
   ·simp only [decide_eq_true_eq] at hc5
    refine c_skip (q_then (c_seq (c_block (c_seq (c_region ?_)))))
    refine o_p (p_indexAddr (L := tt) (T := tSlot) (i := (k : Int)) rfl rfl (rd_base (i := 1) rfl htt) Try.underlying22 sz33 (by omega) (by omega)) ?_
    refine o_p (p_loadEn (i := k) (T := tSlot) (L := tt) (vs := [.bool ((tt[k]).used), .string ((tt[k]).key), Vi ((tt[k]).value)]) rfl (rd_base (i := 1) rfl htt) (by first | assumption | omega) sh33 rfl) ?_
    refine o_alloc ze33 rfl (fun B6 => ?_)
    refine o_storeN (i := 0) (vs := [.bool ((tt[k]).used), .string ((tt[k]).key), Vi ((tt[k]).value)]) (cs' := [.bool ((tt[k]).used), .string ((tt[k]).key), Vi ((tt[k]).value)]) rfl rfl rfl sz33 rfl rfl rfl rfl ?_
    refine o_nil (q_then (c_seq (c_seq (c_region ?_))))
    refine o_p (p_load_agg (i := 0) (vs := [.bool ((tt[k]).used), .string ((tt[k]).key), Vi ((tt[k]).value)]) rfl rfl sh33 rfl rfl) ?_
    refine o_call0 (v := Vi (Tab.one (tt[k]))) rfl (tone_ok (tt[k])) hf65 (fun _ _ => trivial) rfl ?_
    refine o_as rfl rfl ?_
    refine o_nil (q_then (c_seq (c_region ?_)))
    refine o_mv rfl rfl ?_
    refine o_p (p_ne rfl rfl) ?_
    refine o_nil (q_then ?_)
    refine c_cond rfl (fun hc7 => ?_) (fun hc7 => ?_)
    ·simp only [bne_iff_ne, ne_eq] at hc7
     have ho := hc7
     refine c_seq (c_region ?_)
     refine o_mv rfl rfl ?_
     refine o_as rfl rfl ?_
     refine o_nil (q_then (c_ret ?_))
     refine q_then_ret (q_block_ret (q_then_ret (q_then_ret (q_block_ret (q_then_ret ?_)))))
     have hr0 : ((Tab.one (tt[k])) : Int) = (Tab.check tt) := by
      first | exact Tab.ck1 (by omega) | exact Tab.ck2 (by omega) | exact Tab.ck3 (by omega) (by omega) (hI1.bad (by omega) ho) ho | exact Tab.ck3 (by omega) (by omega) (hI1.twice (by omega) ho hu ((hI2 _).1 (by assumption))) (by decide) | exact Tab.ck4 (by omega) (by omega) hz (hI.bad2 (by omega) hu) | exact Tab.ck4 (by omega) (by omega) hz (hI.done (by omega))
     refine q_end0 (v := Vi (Tab.one (tt[k]))) (rt1 rfl (r_tmp rfl)) (i := 2) rfl ?_
     exact (by have hcc := congrArg (fun (y0 : Int) => (.int .i64 y0 : Value)) hr0; exact hcc)
    ·simp only [bne_eq_false_iff_eq] at hc7
     have ho := hc7
     refine c_skip (q_then (c_seq (c_seq (c_region ?_))))
     refine o_p (p_fieldAddr (j' := 0) rfl fo33_0 rfl) ?_
     refine o_p (p_load (i := 0) (v := .bool ((tt[k]).used)) rfl rfl sh4 rfl) ?_
     refine o_p (p_not (b := (tt[k]).used) rfl) ?_
     refine o_nil (q_then ?_)
     refine c_cond rfl (fun hc8 => ?_) (fun hc8 => ?_)
     ·simp only [Bool.not_eq_true'] at hc8
      have hu := hc8
      refine c_exit ?_
      refine q_then_exit (q_block_exit (q_then ?_))
      refine c_region ?_
      refine o_p (p_addb rfl rfl (by omega)) ?_
      refine o_mv rfl rfl ?_
      refine o_nil ?_
      refine q_round hK4 (k + 1, m) ?_ ?_ ?_ ?_
      ·clear hK4
       first | exact ⟨hI1.skip (by omega) ho hu, hI2.skip (by omega) hu⟩ | exact ⟨hI1.next (by omega) ho hu (hI2.no (by assumption)), hI2.next (by omega) hu _⟩
      ·(try dsimp only); omega
      ·exact sr (sr (sr (sr (sr (Sub.nil _)))))
      ·exact pk [1, 2]
     ·simp only [Bool.not_eq_false'] at hc8
      have hu := hc8
      refine c_skip (q_then (c_seq (c_seq (c_region ?_))))
      refine o_mv rfl rfl ?_
      refine o_p (p_fieldAddr (j' := 1) rfl fo33_1 rfl) ?_
      refine o_p (p_load (i := 0) (v := .string ((tt[k]).key)) rfl rfl sh9 rfl) ?_
      refine o_p (p_lookup2 (i := 1) (K := kStr) (ve := (fun _ => .agg #[])) (m := m) (k := (tt[k]).key) (dflt := ()) rfl rfl rfl Try.underlying99 Try.underlying9 zv101) ?_
      refine o_mv rfl rfl ?_
      refine o_ex rfl rfl rfl ?_
      refine o_ex rfl rfl rfl ?_
      refine o_alloc ze101 rfl (fun B9 => ?_)
      refine o_storeN (i := 0) (vs := []) (cs' := []) rfl rfl rfl sz101 rfl rfl rfl rfl ?_
      refine o_as rfl rfl ?_
      refine o_nil (q_then (c_seq (c_region ?_)))
      refine o_mv rfl rfl ?_
      refine o_nil (q_then ?_)
      refine c_cond rfl (fun hc10 => ?_) (fun hc10 => ?_)
      ·skip
       refine c_seq (c_region ?_)
       refine o_as rfl rfl ?_
       refine o_nil (q_then (c_ret ?_))
       refine q_then_ret (q_block_ret (q_then_ret (q_then_ret (q_block_ret (q_then_ret ?_)))))
       have hr0 : (6 : Int) = (Tab.check tt) := by
        first | exact Tab.ck1 (by omega) | exact Tab.ck2 (by omega) | exact Tab.ck3 (by omega) (by omega) (hI1.bad (by omega) ho) ho | exact Tab.ck3 (by omega) (by omega) (hI1.twice (by omega) ho hu ((hI2 _).1 (by assumption))) (by decide) | exact Tab.ck4 (by omega) (by omega) hz (hI.bad2 (by omega) hu) | exact Tab.ck4 (by omega) (by omega) hz (hI.done (by omega))
       refine q_end0 (v := Vi 6) (rt1 rfl (r_tmp rfl)) (i := 3) rfl ?_
       exact (by have hcc := congrArg (fun (y0 : Int) => (.int .i64 y0 : Value)) hr0; exact hcc)
      ·skip
       refine c_skip (q_then (c_region ?_))
       refine o_mv rfl rfl ?_
       refine o_p (p_fieldAddr (j' := 1) rfl fo33_1 rfl) ?_
       refine o_p (p_load (i := 1) (v := .string ((tt[k]).key)) rfl rfl sh9 rfl) ?_
       refine o_p (p_build (cells := []) fp101 ze101 rfl rfl) ?_
       refine o_mapUpdate (i := 2) (K := kStr) (ve := (fun _ => .agg #[])) (m := m) (k := (tt[k]).key) (v := ()) rfl rfl rfl rfl Try.underlying99 Try.underlying9 ?_
       refine o_nil ?_
       refine q_block_normal (q_then ?_)
       refine c_region ?_
       refine o_p (p_addb rfl rfl (by omega)) ?_
       refine o_mv rfl rfl ?_
       refine o_nil ?_
       refine q_round hK4 (k + 1, (AL.set m ((tt[k]).key) ())) ?_ ?_ ?_ ?_
       ·clear hK4
        first | exact ⟨hI1.skip (by omega) ho hu, hI2.skip (by omega) hu⟩ | exact ⟨hI1.next (by omega) ho hu (hI2.no (by assumption)), hI2.next (by omega) hu _⟩
       ·(try dsimp only); omega
       ·exact sr (sr (sr (sr (sr (Sub.nil _)))))
       ·exact pk [2, 3]
   ·simp only [decide_eq_false_iff_not, Int.not_lt] at hc5
    have hz := hI1.done (by omega)
    refine c_exit ?_
    refine q_then_exit (q_then_exit (q_block_exit (q_then ?_)))
    refine c_seq (c_seq (c_region ?_))
    refine o_mv rfl rfl ?_
    refine o_p (p_len_slice rfl rfl Try.underlying22) ?_
    refine o_mv rfl rfl ?_
    refine o_nil (q_then (c_block ?_))
    refine c_loop (St := Nat)
     (fun k => [(0, .slice att tt.length ctt), (47, .slice att tt.length ctt), (48, Vi (tt.length : Int)), (49, Vi (k : Int))])
     (fun k => [mapE kStr (fun _ => .agg #[]) B3 m, base w0])
     (fun k => Tab.AI tt k)
     (fun k => tt.length - k)
     0 ?_ (sr (sr (sr (sr (Sub.nil _))))) (fun _ hw => hw) ?_
    ·exact Tab.AI.start tt
    rintro k hI K hK11
    have hle := hI.le
    show SC _ _ Try.prog 63 w0 _ _ [(0, .slice att tt.length ctt), (47, .slice att tt.length ctt), (48, Vi (tt.length : Int)), (49, Vi (k : Int))] [mapE kStr (fun _ => .agg #[]) B3 m, base w0]
    refine c_seq (c_region ?_)
    refine o_p (p_lt rfl rfl) ?_
    refine o_nil (q_then (c_seq ?_))
    refine c_cond rfl (fun hc12 => ?_) (fun hc12 => ?_)
    ·simp only [decide_eq_true_eq] at hc12
     refine c_skip (q_then (c_seq (c_block (c_seq (c_region ?_)))))
     refine o_mv rfl rfl ?_
     refine o_p (p_indexAddr (L := tt) (T := tSlot) (i := (k : Int)) rfl rfl (rd_base (i := 1) rfl htt) Try.underlying22 sz33 (by omega) (by omega)) ?_
     refine o_p (p_loadEn (i := k) (T := tSlot) (L := tt) (vs := [.bool ((tt[k]).used), .string ((tt[k]).key), Vi ((tt[k]).value)]) rfl (rd_base (i := 1) rfl htt) (by first | assumption | omega) sh33 rfl) ?_
     refine o_alloc ze33 rfl (fun B13 => ?_)
     refine o_as rfl rfl ?_
     refine o_storeN (i := 0) (vs := [.bool ((tt[k]).used), .string ((tt[k]).key), Vi ((tt[k]).value)]) (cs' := [.bool ((tt[k]).used), .string ((tt[k]).key), Vi ((tt[k]).value)]) rfl rfl rfl sz33 rfl rfl rfl rfl ?_
     refine o_nil (q_then (c_seq (c_region ?_)))
     refine o_p (p_fieldAddr (j' := 0) rfl fo33_0 rfl) ?_
     refine o_p (p_load (i := 0) (v := .bool ((tt[k]).used)) rfl rfl sh4 rfl) ?_
     refine o_mv rfl rfl ?_
     refine o_and (p := 61) 5 (!(Tab.reached tt (k : Int))) ?_ ?_ ?_
     ·intro hb14 hk
      skip
      refine o_unguard 56 rfl rfl ?_
      refine o_mv rfl rfl ?_
      refine o_unguard 56 rfl rfl ?_
      refine o_mv rfl rfl ?_
      refine o_unguard 56 rfl rfl ?_
      refine o_call0 (v := .bool (Tab.reached tt (k : Int))) rfl (treached_ok tt att ctt (k : Int) (by first | assumption | exact ⟨by omega, by omega, by omega, Tab.key_le hz (by omega)⟩)) hf66 (fun w hw => (rd_base (i := 2) rfl htt) w hw) rfl ?_
      refine o_unguard 56 rfl rfl ?_
      refine o_p (p_not (b := (Tab.reached tt (k : Int))) rfl) ?_
      refine o_pt rfl rfl rfl ?_
      exact o_sub (sr (Sub.skip rfl (Sub.skip rfl (Sub.skip rfl (Sub.skip rfl (Sub.skip rfl (Sub.skip rfl (Sub.refl _)))))))) hk
     ·intro hb14 hk
      refine o_guard_no rfl 56 rfl rfl rfl rfl rfl ?_
      refine o_guard_no rfl 56 rfl rfl rfl rfl rfl ?_
      refine o_guard_no rfl 56 rfl rfl rfl rfl rfl ?_
      refine o_guard_no rfl 56 rfl rfl rfl rfl rfl ?_
      refine o_pf rfl rfl rfl ?_
      exact o_sub (sr (Sub.skip rfl (Sub.skip rfl (Sub.skip rfl (Sub.skip rfl (Sub.skip rfl (Sub.skip rfl (Sub.refl _)))))))) hk
     refine o_nil (q_then ?_)
     refine c_cond rfl (fun hc15 => ?_) (fun hc15 => ?_)
     ·simp only [Bool.and_eq_true, Bool.not_eq_true'] at hc15
      have hu := hc15
      refine c_seq (c_region ?_)
      refine o_as rfl rfl ?_
      refine o_nil (q_then (c_ret ?_))
      refine q_block_ret (q_then_ret (q_then_ret (q_block_ret (q_then_ret ?_))))
      have hr0 : (4 : Int) = (Tab.check tt) := by
       first | exact Tab.ck1 (by omega) | exact Tab.ck2 (by omega) | exact Tab.ck3 (by omega) (by omega) (hI1.bad (by omega) ho) ho | exact Tab.ck3 (by omega) (by omega) (hI1.twice (by omega) ho hu ((hI2 _).1 (by assumption))) (by decide) | exact Tab.ck4 (by omega) (by omega) hz (hI.bad2 (by omega) hu) | exact Tab.ck4 (by omega) (by omega) hz (hI.done (by omega))
      refine q_end0 (v := Vi 4) (rt1 rfl (r_tmp rfl)) (i := 2) rfl ?_
      exact (by have hcc := congrArg (fun (y0 : Int) => (.int .i64 y0 : Value)) hr0; exact hcc)
     ·simp only [Bool.and_eq_false_iff, Bool.not_eq_false'] at hc15
      have hu := hc15
      refine c_skip ?_
      refine q_block_normal (q_then ?_)
      refine c_region ?_
      refine o_p (p_addb rfl rfl (by omega)) ?_
      refine o_mv rfl rfl ?_
      refine o_nil ?_
      refine q_round hK11 (k + 1) ?_ ?_ ?_ ?_
      ·clear hK11
       exact hI.next2 (by omega) hu
      ·(try dsimp only); omega
      ·exact sr (sr (sr (sr (Sub.nil _))))
      ·exact pk [1, 2]
    ·simp only [decide_eq_false_iff_not, Int.not_lt] at hc12
     have hz := hI1.done (by omega)
     refine c_exit ?_
     refine q_then_exit (q_then_exit (q_block_exit (q_then ?_)))
     refine c_seq (c_region ?_)
     refine o_as rfl rfl ?_
     refine o_nil (q_then (c_ret ?_))
     have hr0 : (0 : Int) = (Tab.check tt) := by
      first | exact Tab.ck1 (by omega) | exact Tab.ck2 (by omega) | exact Tab.ck3 (by omega) (by omega) (hI1.bad (by omega) ho) ho | exact Tab.ck3 (by omega) (by omega) (hI1.twice (by omega) ho hu ((hI2 _).1 (by assumption))) (by decide) | exact Tab.ck4 (by omega) (by omega) hz (hI.bad2 (by omega) hu) | exact Tab.ck4 (by omega) (by omega) hz (hI.done (by omega))
     refine q_end0 (v := Vi 0) (rt1 rfl (r_tmp rfl)) (i := 1) rfl ?_
     exact (by have hcc := congrArg (fun (y0 : Int) => (.int .i64 y0 : Value)) hr0; exact hcc)

set_option maxHeartbeats 8000000 in
set_option maxRecDepth 100000 in
theorem tget_ok (tt : List DSlot) (att : Option Addr) (ctt : Nat) (key : ByteArray) : Fn0 Try.prog 15 [.slice att tt.length ctt, .string key] (fun w => Rd tSlot w att ctt tt) (.tuple #[Vi (Tab.has tt key), Vi (Tab.looked tt key), Vi (Tab.keyErr tt key)]) := by
 refine fn0 (nt := 32) (F0 := [(0, .slice att tt.length ctt), (1, .string key)]) Try.func15 rfl Try.ntmps15 rfl rfl (fun w0 hpre => ?_)
 have htt := hpre
 have hlhtt := htt.2.1
 refine c_seq (c_region ?_)
 refine o_as rfl rfl ?_
 refine o_as rfl rfl ?_
 refine o_as rfl rfl ?_
 refine o_nil (q_then (c_seq (c_seq (c_region ?_))))
 refine o_mv rfl rfl ?_
 refine o_call0 (v := Vi (Tab.check tt)) rfl (tcheck_ok tt att ctt) hf25 (fun w hw => (rd_base (i := 0) rfl htt) w hw) rfl ?_
 refine o_as rfl rfl ?_
 refine o_nil (q_then (c_seq (c_region ?_)))
 refine o_mv rfl rfl ?_
 refine o_p (p_ne rfl rfl) ?_
 refine o_nil (q_then ?_)
 refine c_cond rfl (fun hc1 => ?_) (fun hc1 => ?_)
 ·simp only [bne_iff_ne, ne_eq] at hc1
  refine c_seq (c_region ?_)
  refine o_mv rfl rfl ?_
  refine o_as rfl rfl ?_
  refine o_as rfl rfl ?_
  refine o_as rfl rfl ?_
  refine o_nil (q_then (c_ret ?_))
  refine q_then_ret ?_
  obtain ⟨c1, c2, c3⟩ : _ ∧ _ ∧ _ := by first | exact Tab.g1 (t := tt) (key := key) (by assumption) | exact Tab.g2 (t := tt) (key := key) hck (by assumption) | exact Tab.g3 (t := tt) (key := key) hck (by assumption) (by assumption) | exact Tab.g4 (t := tt) (key := key) hck (by assumption) (by assumption)
  have hr0 : (0 : Int) = (Tab.has tt key) := by
   first | exact c1.symm | exact c2.symm | exact c3.symm
  have hr1 : (0 : Int) = (Tab.looked tt key) := by
   first | exact c1.symm | exact c2.symm | exact c3.symm
  have hr2 : ((Tab.check tt) : Int) = (Tab.keyErr tt key) := by
   first | exact c1.symm | exact c2.symm | exact c3.symm
  refine q_end0 (v := .tuple #[Vi 0, Vi 0, Vi (Tab.check tt)]) (rt3 rfl (r_tmp rfl) (r_tmp rfl) (r_tmp rfl)) (i := 0) rfl ?_
  exact (by have hcc := congr (congr (congrArg (fun (y0 : Int) (y1 : Int) (y2 : Int) => (.tuple #[.int .i64 y0, .int .i64 y1, .int .i64 y2] : Value)) hr0) hr1) hr2; exact hcc)
 ·simp only [bne_eq_false_iff_eq] at hc1
  have hck := hc1
  have hln := Tab.ck_len hc1
  have hfb := Tab.find_lt key hln
  refine c_skip (q_then (c_seq (c_seq (c_region ?_))))
  refine o_mv rfl rfl ?_
  refine o_p (p_len_string rfl rfl Try.underlying9) ?_
  refine o_p (p_gt rfl rfl) ?_
  refine o_nil (q_then ?_)
  refine c_cond rfl (fun hc2 => ?_) (fun hc2 => ?_)
  ·simp only [decide_eq_true_eq] at hc2
   refine c_seq (c_region ?_)
   refine o_as rfl rfl ?_
   refine o_as rfl rfl ?_
   refine o_as rfl rfl ?_
   refine o_nil (q_then (c_ret ?_))
   refine q_then_ret ?_
   obtain ⟨c1, c2, c3⟩ : _ ∧ _ ∧ _ := by first | exact Tab.g1 (t := tt) (key := key) (by assumption) | exact Tab.g2 (t := tt) (key := key) hck (by assumption) | exact Tab.g3 (t := tt) (key := key) hck (by assumption) (by assumption) | exact Tab.g4 (t := tt) (key := key) hck (by assumption) (by assumption)
   have hr0 : (0 : Int) = (Tab.has tt key) := by
    first | exact c1.symm | exact c2.symm | exact c3.symm
   have hr1 : (0 : Int) = (Tab.looked tt key) := by
    first | exact c1.symm | exact c2.symm | exact c3.symm
   have hr2 : (3 : Int) = (Tab.keyErr tt key) := by
    first | exact c1.symm | exact c2.symm | exact c3.symm
   refine q_end0 (v := .tuple #[Vi 0, Vi 0, Vi 3]) (rt3 rfl (r_tmp rfl) (r_tmp rfl) (r_tmp rfl)) (i := 0) rfl ?_
   exact (by have hcc := congr (congr (congrArg (fun (y0 : Int) (y1 : Int) (y2 : Int) => (.tuple #[.int .i64 y0, .int .i64 y1, .int .i64 y2] : Value)) hr0) hr1) hr2; exact hcc)
  ·simp only [decide_eq_false_iff_not, Int.not_lt] at hc2
   refine c_skip (q_then (c_seq (c_region ?_)))
   refine o_mv rfl rfl ?_
   refine o_mv rfl rfl ?_
   refine o_call0 (v := .tuple #[Vi ((Tab.find tt key).1), Vi ((Tab.find tt key).2)]) rfl (tfind_ok tt att ctt key (by first | assumption | omega)) hf55 (fun w hw => (rd_base (i := 0) rfl htt) w hw) rfl ?_
   refine o_mv rfl rfl ?_
   refine o_ex rfl rfl rfl ?_
   refine o_ex rfl rfl rfl ?_
   refine o_as rfl rfl ?_
   refine o_as rfl rfl ?_
   refine o_nil (q_then (c_seq (c_seq (c_region ?_))))
   refine o_mv rfl rfl ?_
   refine o_p (p_lt rfl rfl) ?_
   refine o_nil (q_then ?_)
   refine c_cond rfl (fun hc3 => ?_) (fun hc3 => ?_)
   ·simp only [decide_eq_true_eq] at hc3
    refine c_seq (c_region ?_)
    refine o_as rfl rfl ?_
    refine o_as rfl rfl ?_
    refine o_as rfl rfl ?_
    refine o_nil (q_then (c_ret ?_))
    refine q_then_ret ?_
    obtain ⟨c1, c2, c3⟩ : _ ∧ _ ∧ _ := by first | exact Tab.g1 (t := tt) (key := key) (by assumption) | exact Tab.g2 (t := tt) (key := key) hck (by assumption) | exact Tab.g3 (t := tt) (key := key) hck (by assumption) (by assumption) | exact Tab.g4 (t := tt) (key := key) hck (by assumption) (by assumption)
    have hr0 : (0 : Int) = (Tab.has tt key) := by
     first | exact c1.symm | exact c2.symm | exact c3.symm
    have hr1 : (0 : Int) = (Tab.looked tt key) := by
     first | exact c1.symm | exact c2.symm | exact c3.symm
    have hr2 : (5 : Int) = (Tab.keyErr tt key) := by
     first | exact c1.symm | exact c2.symm | exact c3.symm
    refine q_end0 (v := .tuple #[Vi 0, Vi 0, Vi 5]) (rt3 rfl (r_tmp rfl) (r_tmp rfl) (r_tmp rfl)) (i := 0) rfl ?_
    exact (by have hcc := congr (congr (congrArg (fun (y0 : Int) (y1 : Int) (y2 : Int) => (.tuple #[.int .i64 y0, .int .i64 y1, .int .i64 y2] : Value)) hr0) hr1) hr2; exact hcc)
   ·simp only [decide_eq_false_iff_not, Int.not_lt] at hc3
    refine c_skip (q_then (c_seq (c_region ?_)))
    refine o_mv rfl rfl ?_
    refine o_mv rfl rfl ?_
    refine o_p (p_indexAddr (L := tt) (T := tSlot) (i := ((Tab.find tt key).1)) rfl rfl (rd_base (i := 0) rfl htt) Try.underlying22 sz33 (by omega) (by omega)) ?_
    refine o_p (p_fieldAddrE rfl fo33_2) ?_
    refine o_p (p_loadF (i := ((Tab.find tt key).1).toNat) (j := 2) (T := tSlot) (L := tt) (v := Vi ((tt.getD (((Tab.find tt key).1).toNat) default).value)) rfl (rd_base (i := 0) rfl htt) (by first | assumption | omega) sh3 (congrArg (fun z => (tSlot.enc z)[2]?) (getd_at (by first | assumption | omega) default))) ?_
    refine o_mv rfl rfl ?_
    refine o_as rfl rfl ?_
    refine o_as rfl rfl ?_
    refine o_as rfl rfl ?_
    refine o_nil (q_then (c_ret ?_))
    obtain ⟨c1, c2, c3⟩ : _ ∧ _ ∧ _ := by first | exact Tab.g1 (t := tt) (key := key) (by assumption) | exact Tab.g2 (t := tt) (key := key) hck (by assumption) | exact Tab.g3 (t := tt) (key := key) hck (by assumption) (by assumption) | exact Tab.g4 (t := tt) (key := key) hck (by assumption) (by assumption)
    have hr0 : ((tt.getD (((Tab.find tt key).1).toNat) default).value : Int) = (Tab.has tt key) := by
     first | exact c1.symm | exact c2.symm | exact c3.symm
    have hr1 : (((Tab.find tt key).2) : Int) = (Tab.looked tt key) := by
     first | exact c1.symm | exact c2.symm | exact c3.symm
    have hr2 : (0 : Int) = (Tab.keyErr tt key) := by
     first | exact c1.symm | exact c2.symm | exact c3.symm
    refine q_end0 (v := .tuple #[Vi ((tt.getD (((Tab.find tt key).1).toNat) default).value), Vi ((Tab.find tt key).2), Vi 0]) (rt3 rfl (r_tmp rfl) (r_tmp rfl) (r_tmp rfl)) (i := 0) rfl ?_
    exact (by have hcc := congr (congr (congrArg (fun (y0 : Int) (y1 : Int) (y2 : Int) => (.tuple #[.int .i64 y0, .int .i64 y1, .int .i64 y2] : Value)) hr0) hr1) hr2; exact hcc)
end Go.Proofs.Ythecfjipaepcgaa

/- The walks, printed by a program from the translation and a specification. -/
namespace Go.Proofs.Ythecfjipaepcgaa
open Go.Sx Go.RowKit
set_option maxHeartbeats 8000000 in
set_option maxRecDepth 100000 in
theorem tput_ok (tt : List DSlot) (att : Option Addr) (ctt : Nat) (Stt : Nat → Prop) (key : ByteArray) (value : Int) (hy1 : 1 ≤ tt.length ∧ tt.length ≤ 64 ∧ key.size ≤ 40) : FnX Try.prog 58 [.slice att tt.length ctt, .string key, Vi value] [own tSlot Stt att ctt tt] (fun _ => True) (Unit) (fun p => .bool (!decide (Tab.putAt tt key < 0))) (fun p => [own tSlot Stt att ctt (Tab.put tt key value)]) := by
 refine fnXR (nt := 37) (F0 := [(0, .slice att tt.length ctt), (1, .string key), (2, Vi value)]) Try.func58 rfl Try.ntmps58 rfl rfl (fun w0 hpre => ?_)
 refine c_know (fun w hw => own_len (i := 1) (T := tSlot) hw rfl) (fun hlown_tt => ?_)
 obtain ⟨hcown_tt, hlown_tt⟩ := hlown_tt
 have hhb := Tab.home_bd key (n := (tt.length : Int)) (by omega)
 refine c_seq (c_region ?_)
 refine o_box (v := .slice att tt.length ctt) rfl rfl (fun B1 => ?_)
 refine o_box (v := .string key) rfl rfl (fun B2 => ?_)
 refine o_box (v := Vi value) rfl rfl (fun B3 => ?_)
 refine o_alloc ze4 rfl (fun B4 => ?_)
 refine o_nil (q_then (c_seq (c_seq ?_)))
 refine c_cutN (G := Nat × Nat) (fun ⟨B5_6, B5_6_1⟩ => [(3, .pointer (some ⟨B1, 0, none⟩)), (4, .pointer (some ⟨B2, 0, none⟩)), (5, .pointer (some ⟨B3, 0, none⟩)), (6, .pointer (some ⟨B4, 0, none⟩)), (14, .func (.func 90) #[] #[.pointer (some ⟨B5_6, 0, none⟩), .pointer (some ⟨B5_6_1, 0, none⟩)])]) (fun ⟨B5_6, B5_6_1⟩ => [box B5_6 [Vi (tt.length : Int)] 3, box B5_6_1 [Vi (Tab.home key (tt.length : Int))] 3, box B4 [.bool false] 4, box B3 [Vi value] 3, box B2 [.string key] 9, box B1 [.slice att tt.length ctt] 22, outer w0 [own tSlot Stt att ctt tt], own tSlot Stt att ctt tt]) (fun K hK6 => ?_) ?_
 ·refine c_held hmix [box B4 [.bool false] 4, box B3 [Vi value] 3, box B2 [.string key] 9, box B1 [.slice att tt.length ctt] 22, outer w0 [own tSlot Stt att ctt tt], own tSlot Stt att ctt tt] rfl rfl ?_
  refine h_t0 (i := 0) (ls := #[T1,F0,F0,F0,F0,F0,F0]) rfl (p_load (i := 3) (v := .slice att tt.length ctt) rfl rfl sh22 rfl) ?_
  refine h_t0 (i := 1) (ls := #[T1,T1,F0,F0,F0,F0,F0]) rfl (p_len_slice rfl rfl Try.underlying22) ?_
  refine h_t0 (i := 2) (ls := #[T1,T1,T1,F0,F0,F0,F0]) rfl (p_load (i := 2) (v := .string key) rfl rfl sh9 rfl) ?_
  refine h_t0 (i := 3) (ls := #[T1,T1,T1,T1,F0,F0,F0]) rfl (p_load (i := 3) (v := .slice att tt.length ctt) rfl rfl sh22 rfl) ?_
  refine h_t0 (i := 4) (ls := #[T1,T1,T1,T1,T1,F0,F0]) rfl (p_len_slice rfl rfl Try.underlying22) ?_
  refine h_one (i := 5) (ls := #[T1,T1,T1,T1,T1,T1,F0]) (by kernel_rfl) rfl rfl ?_
  refine o_call0 (v := Vi (Tab.home key (tt.length : Int))) rfl (thome_ok key (tt.length : Int) (by first | assumption | omega | exact hy1.2.2.2 | exact hy1.2.2)) hf60 (fun _ _ => trivial) rfl ?_
  refine o_nil ?_
  refine h_next (dp (lr)) ?_
  refine h_one (i := 6) (ls := #[T1,T1,T1,T1,T1,T1,T1]) (by kernel_rfl) rfl rfl ?_
  refine o_callX (pre := []) (R := [box B4 [.bool false] 4, box B3 [Vi value] 3, box B2 [.string key] 9, box B1 [.slice att tt.length ctt] 22, outer w0 [own tSlot Stt att ctt tt], own tSlot Stt att ctt tt]) rfl (tround_ok (tt.length : Int) (Tab.home key (tt.length : Int))) hf59 rfl (fun _ _ => trivial) rfl ?_
  rintro ⟨B5_6, B5_6_1⟩
  refine o_asH (H' := [box B5_6 [Vi (tt.length : Int)] 3, box B5_6_1 [Vi (Tab.home key (tt.length : Int))] 3, box B4 [.bool false] 4, box B3 [Vi value] 3, box B2 [.string key] 9, box B1 [.slice att tt.length ctt] 22, outer w0 [own tSlot Stt att ctt tt], own tSlot Stt att ctt tt]) rfl ?_
  refine o_nil ?_
  refine h_next (dp (lz (lz (lj (lj (lj (lj (lj (lj (ln)))))))))) ?_
  refine h_done (by kernel_rfl) ?_
  refine q_kontN hK6 (B5_6, B5_6_1) (sr (sr (sr (sr (sr (Sub.nil _)))))) (pk [0, 1, 2, 3, 4, 5, 6, 7])
 rintro ⟨B5_6, B5_6_1⟩
 show SQ _ 37 w0 _ _ [(3, .pointer (some ⟨B1, 0, none⟩)), (4, .pointer (some ⟨B2, 0, none⟩)), (5, .pointer (some ⟨B3, 0, none⟩)), (6, .pointer (some ⟨B4, 0, none⟩)), (14, .func (.func 90) #[] #[.pointer (some ⟨B5_6, 0, none⟩), .pointer (some ⟨B5_6_1, 0, none⟩)])] [box B5_6 [Vi (tt.length : Int)] 3, box B5_6_1 [Vi (Tab.home key (tt.length : Int))] 3, box B4 [.bool false] 4, box B3 [Vi value] 3, box B2 [.string key] 9, box B1 [.slice att tt.length ctt] 22, outer w0 [own tSlot Stt att ctt tt], own tSlot Stt att ctt tt]
 refine q_then (c_block ?_)
 refine c_rangeFunc (f := 90) (caps := [.pointer (some ⟨B5_6, 0, none⟩), .pointer (some ⟨B5_6_1, 0, none⟩)]) (Pr := (fun e w => ((box B5_6 [Vi (tt.length : Int)] 3).A w ∧ (outer w [e]).S B5_6) ∧ ((box B5_6_1 [Vi (Tab.home key (tt.length : Int))] 3).A w ∧ (outer w [e]).S B5_6_1))) (X := Unit) (encs := (fun x k => [Vi (Tab.place (Tab.home key (tt.length : Int)) (tt.length : Int) k)])) (E := (fun x k => [])) (N := (tt.length : Int).toNat) rfl hf90 (round1_ok (tt.length : Int) B5_6 (Tab.home key (tt.length : Int)) B5_6_1 (by omega)) (fun _ _ => rfl) (by decide) (St := List DSlot × Bool)
  (fun ⟨ls, rb⟩ => [box B4 [.bool rb] 4, box B1 [.slice att ls.length ctt] 22, own tSlot Stt att ctt ls])
  (fun k ⟨ls, rb⟩ => Tab.PI tt key k ∧ ls = tt)
  (fun c ⟨ls, rb⟩ => (c = .ret ∧ (ls = Tab.put tt key value ∧ rb = !decide (Tab.putAt tt key < 0))))
  [box B5_6 [Vi (tt.length : Int)] 3, box B5_6_1 [Vi (Tab.home key (tt.length : Int))] 3, box B3 [Vi value] 3, box B2 [.string key] 9, outer w0 [own tSlot Stt att ctt tt]]
  (tt, false) ?_ ?_ ?_ ?_ ?_ ?_
 ·exact ⟨Tab.PI.start tt key, rfl⟩
 ·exact fun w hw => hw.pick (H' := [box B4 [.bool false] 4, box B1 [.slice att tt.length ctt] 22, own tSlot Stt att ctt tt, box B5_6 [Vi (tt.length : Int)] 3, box B5_6_1 [Vi (Tab.home key (tt.length : Int))] 3, box B3 [Vi value] 3, box B2 [.string key] 9, outer w0 [own tSlot Stt att ctt tt]]) [2, 5, 7, 0, 1, 3, 4, 6] (by decide) rfl
 ·intro D e0 W1 hW1
  exact ⟨boxX (i := 2) (js := [0]) rfl (by decide) rfl W1 hW1, boxX (i := 3) (js := [0]) rfl (by decide) rfl W1 hW1⟩
 ·rintro l_ rc D e0 W1 hW1 x_ k ⟨ls, rb⟩ hk hI
  have hpb := Tab.place_bd (h := Tab.home key (tt.length : Int)) (n := (tt.length : Int)) (by omega) (by omega) k
  obtain ⟨hI1, hls⟩ := id hI
  have hll : ls.length = tt.length := by rw [hls]
  have hobr0_B2 := boxX (i := 5) (B := B2) (cs := [.string key]) (U := 9) (js := [0]) (pre := [e0]) rfl (by decide) rfl W1 hW1
  have hobr0_B3 := boxX (i := 4) (B := B3) (cs := [Vi value]) (U := 3) (js := [0]) (pre := [e0]) rfl (by decide) rfl W1 hW1
  refine c_region ?_
  refine o_as rfl rfl ?_
  refine o_nil ?_
  refine q_begin (i := 1) rfl ?_
  refine c_block (c_seq ?_)
  refine c_drawR hmix (by decide) (fun _ _ h => h) (by kernel_rfl) ?_
  refine w_p (p_load (i := 3) (v := .slice att ls.length ctt) rfl rfl sh22 rfl) ?_
  refine w_mv rfl rfl ?_
  refine w_p (p_indexAddr (L := ls) (T := tSlot) (i := (Tab.place (Tab.home key (tt.length : Int)) (tt.length : Int) k)) rfl rfl (rd_own (i := 4) rfl) Try.underlying22 sz33 (by omega) (by omega)) ?_
  refine w_p (p_fieldAddrE rfl fo33_0) ?_
  refine w_p (p_loadF (i := (Tab.place (Tab.home key (tt.length : Int)) (tt.length : Int) k).toNat) (j := 0) (T := tSlot) (L := ls) (v := .bool ((ls.getD ((Tab.place (Tab.home key (tt.length : Int)) (tt.length : Int) k).toNat) default).used)) rfl (rd_own (i := 4) rfl) (by first | assumption | omega) sh4 (congrArg (fun z => (tSlot.enc z)[0]?) (getd_at (by first | assumption | omega) default))) ?_
  refine w_p (p_not (b := (ls.getD ((Tab.place (Tab.home key (tt.length : Int)) (tt.length : Int) k).toNat) default).used) rfl) ?_
  refine w_mv rfl rfl ?_
  refine w_or (p := 30) 8 (decide ((ls.getD ((Tab.place (Tab.home key (tt.length : Int)) (tt.length : Int) k).toNat) default).key = key)) ?_ ?_ ?_
  ·intro hb7 hk
   simp only [Bool.not_eq_false'] at hb7
   refine w_unguard 22 rfl rfl ?_
   refine w_p (p_load (i := 3) (v := .slice att ls.length ctt) rfl rfl sh22 rfl) ?_
   refine w_unguard 22 rfl rfl ?_
   refine w_mv rfl rfl ?_
   refine w_unguard 22 rfl rfl ?_
   refine w_p (p_indexAddr (L := ls) (T := tSlot) (i := (Tab.place (Tab.home key (tt.length : Int)) (tt.length : Int) k)) rfl rfl (rd_own (i := 4) rfl) Try.underlying22 sz33 (by omega) (by omega)) ?_
   refine w_unguard 22 rfl rfl ?_
   refine w_p (p_fieldAddrE rfl fo33_1) ?_
   refine w_unguard 22 rfl rfl ?_
   refine w_p (p_loadF (i := (Tab.place (Tab.home key (tt.length : Int)) (tt.length : Int) k).toNat) (j := 1) (T := tSlot) (L := ls) (v := .string ((ls.getD ((Tab.place (Tab.home key (tt.length : Int)) (tt.length : Int) k).toNat) default).key)) rfl (rd_own (i := 4) rfl) (by first | assumption | omega) sh9 (congrArg (fun z => (tSlot.enc z)[1]?) (getd_at (by first | assumption | omega) default))) ?_
   refine w_unguard 22 rfl rfl ?_
   refine w_p (p_loadR (v := .string key) rfl (rbox_outer (i := 0) rfl hobr0_B2) sh9 rfl) ?_
   refine w_unguard 22 rfl rfl ?_
   refine w_p (p_eqStr (s := (ls.getD ((Tab.place (Tab.home key (tt.length : Int)) (tt.length : Int) k).toNat) default).key) (t := key) rfl rfl) ?_
   refine w_pf rfl rfl rfl ?_
   exact w_sub (sr (Sub.skip rfl (Sub.skip rfl (Sub.skip rfl (Sub.skip rfl (Sub.skip rfl (Sub.skip rfl (Sub.skip rfl (Sub.skip rfl (Sub.skip rfl (Sub.refl _))))))))))) hk
  ·intro hb7 hk
   refine w_guard_no rfl 22 rfl rfl rfl rfl rfl ?_
   refine w_guard_no rfl 22 rfl rfl rfl rfl rfl ?_
   refine w_guard_no rfl 22 rfl rfl rfl rfl rfl ?_
   refine w_guard_no rfl 22 rfl rfl rfl rfl rfl ?_
   refine w_guard_no rfl 22 rfl rfl rfl rfl rfl ?_
   refine w_guard_no rfl 22 rfl rfl rfl rfl rfl ?_
   refine w_guard_no rfl 22 rfl rfl rfl rfl rfl ?_
   refine w_pt rfl rfl rfl ?_
   exact w_sub (sr (Sub.skip rfl (Sub.skip rfl (Sub.skip rfl (Sub.skip rfl (Sub.skip rfl (Sub.skip rfl (Sub.skip rfl (Sub.skip rfl (Sub.skip rfl (Sub.refl _))))))))))) hk
  refine w_nil (q_then ?_)
  refine c_cond rfl (fun hc8 => ?_) (fun hc8 => ?_)
  ·simp only [Bool.or_eq_true, Bool.not_eq_true', decide_eq_true_eq] at hc8
   have hu := hc8
   refine c_seq (c_region ?_)
   refine o_p (p_load (i := 3) (v := .slice att ls.length ctt) rfl rfl sh22 rfl) ?_
   refine o_mv rfl rfl ?_
   refine o_p (p_loadR (v := .string key) rfl (rbox_outer (i := 0) rfl hobr0_B2) sh9 rfl) ?_
   refine o_p (p_loadR (v := Vi value) rfl (rbox_outer (i := 0) rfl hobr0_B3) sh3 rfl) ?_
   refine o_p (p_build (cells := [.bool true, .string key, Vi value]) fp33 ze33 rfl rfl) ?_
   refine o_p (p_indexAddr (L := ls) (T := tSlot) (i := (Tab.place (Tab.home key (tt.length : Int)) (tt.length : Int) k)) rfl rfl (rd_own (i := 4) rfl) Try.underlying22 sz33 (by omega) (by omega)) ?_
   refine o_storeW (i := 4) (T := tSlot) (idx := (Tab.place (Tab.home key (tt.length : Int)) (tt.length : Int) k).toNat) (v := .agg #[.bool true, .string key, Vi value]) (vs := [.bool true, .string key, Vi value]) (z := (⟨true, key, value⟩ : DSlot)) (F' := [(6, .pointer (some ⟨B4, 0, none⟩))]) rfl rfl rfl rfl (by first | assumption | omega | (simp only [List.length_set]; omega)) sz33 rfl rfl rfl rfl (sr (Sub.nil _)) ?_
   refine o_asH (H := [outer W1 [e0], loopE l_ (recd rc .busy none), box B4 [.bool rb] 4, box B1 [.slice att ls.length ctt] 22, own tSlot Stt att ctt (ls.set ((Tab.place (Tab.home key (tt.length : Int)) (tt.length : Int) k).toNat) (⟨true, key, value⟩ : DSlot))]) (H' := [outer W1 [e0], loopE l_ (recd rc .busy none), box B4 [.bool rb] 4, box B1 [.slice att (ls.set ((Tab.place (Tab.home key (tt.length : Int)) (tt.length : Int) k).toNat) (⟨true, key, value⟩ : DSlot)).length ctt] 22, own tSlot Stt att ctt (ls.set ((Tab.place (Tab.home key (tt.length : Int)) (tt.length : Int) k).toNat) (⟨true, key, value⟩ : DSlot))]) (by simp only [List.length_set]) ?_
   refine o_nil (q_then (c_seq (c_region ?_)))
   refine o_store (i := 2) (v := .bool true) (cs' := [.bool true]) rfl rfl rfl sz4 rfl rfl rfl ?_
   refine o_nil (q_then (c_ret ?_))
   refine q_block_ret ?_
   refine q_leave ((ls.set ((Tab.place (Tab.home key (tt.length : Int)) (tt.length : Int) k).toNat) (⟨true, key, value⟩ : DSlot)), true) ?_ (fun w hw => hw.pick (H' := [outer W1 [e0], loopE l_ (recd rc .busy none), box B4 [.bool true] 4, box B1 [.slice att (ls.set ((Tab.place (Tab.home key (tt.length : Int)) (tt.length : Int) k).toNat) (⟨true, key, value⟩ : DSlot)).length ctt] 22, own tSlot Stt att ctt (ls.set ((Tab.place (Tab.home key (tt.length : Int)) (tt.length : Int) k).toNat) (⟨true, key, value⟩ : DSlot))]) [0, 1, 2, 3, 4] (by decide) rfl)
   refine ⟨rfl, ?_⟩
   subst hls
   exact Tab.put_yes hpb (hI1.here (by omega) hu)
  ·simp only [Bool.or_eq_false_iff, Bool.not_eq_false', decide_eq_false_iff_not] at hc8
   have hu := hc8
   refine c_skip ?_
   refine q_block_normal ?_
   refine q_next (ls, rb) ?_ (fun w hw => hw.pick (H' := [outer W1 [e0], loopE l_ (recd rc .busy none), box B4 [.bool rb] 4, box B1 [.slice att ls.length ctt] 22, own tSlot Stt att ctt ls]) [0, 1, 2, 3, 4] (by decide) rfl)
   subst hls
   exact ⟨hI1.next (by omega) (Tab.not_or2 hu), rfl⟩
 ·rintro D ⟨ls, rb⟩ hI
  show SQ _ 37 w0 _ _ _ [defE D, box B4 [.bool rb] 4, box B1 [.slice att ls.length ctt] 22, own tSlot Stt att ctt ls, box B5_6 [Vi (tt.length : Int)] 3, box B5_6_1 [Vi (Tab.home key (tt.length : Int))] 3, box B3 [Vi value] 3, box B2 [.string key] 9, outer w0 [own tSlot Stt att ctt tt]]
  refine q_block_normal (q_then ?_)
  refine c_seq (c_region ?_)
  refine o_store (i := 1) (v := .bool false) (cs' := [.bool false]) rfl rfl rfl sz4 rfl rfl rfl ?_
  refine o_nil (q_then (c_ret ?_))
  refine q_marks (i := 0) rfl ?_
  show SQ _ 37 w0 _ _ _ [box B4 [.bool false] 4, box B1 [.slice att ls.length ctt] 22, own tSlot Stt att ctt ls, box B5_6 [Vi (tt.length : Int)] 3, box B5_6_1 [Vi (Tab.home key (tt.length : Int))] 3, box B3 [Vi value] 3, box B2 [.string key] 9, outer w0 [own tSlot Stt att ctt tt]]
  refine q_marks0 ?_
  have hr0 : (ls : List DSlot) = (Tab.put tt key value) := by
   first | exact hI.2 | exact hI.1 | exact (Tab.put_no (v := value) (hI.1.done (by omega))).2 | exact hI.2.trans (Tab.put_no (v := value) (hI.1.done (by omega))).1
  have hr1 : (false : Bool) = (!decide (Tab.putAt tt key < 0)) := by
   first | exact hI.2 | exact hI.1 | exact (Tab.put_no (v := value) (hI.1.done (by omega))).2 | exact hI.2.trans (Tab.put_no (v := value) (hI.1.done (by omega))).1
  refine q_endX (p := ()) (rt1 rfl (r_cell1 (i := 0) rfl rfl sh4)) ?_ (fun w hw => ?_)
  ·exact (by have hcc := congr (congrArg (fun (y0 : List DSlot) (y1 : Bool) => (.bool y1 : Value)) hr0) hr1; exact hcc)
  ·have h2 := hw.pick (H' := [outer w0 [own tSlot Stt att ctt tt], own tSlot Stt att ctt ls]) [7, 2] (by decide) rfl
   exact Eq.mp (congrArg (fun z => HeapIs w0 ((outer w0 [own tSlot Stt att ctt tt]) :: z) w) ((by have hcc := congr (congrArg (fun (y0 : List DSlot) (y1 : Bool) => ([own tSlot Stt att ctt y0] : List Ent)) hr0) hr1; exact hcc))) h2
 ·rintro D c ⟨ls, rb⟩ hx
  rcases hx with ⟨rfl, hI⟩
  ·show SC _ _ Try.prog 37 w0 _ _ _ [defE D, box B4 [.bool rb] 4, box B1 [.slice att ls.length ctt] 22, own tSlot Stt att ctt ls, box B5_6 [Vi (tt.length : Int)] 3, box B5_6_1 [Vi (Tab.home key (tt.length : Int))] 3, box B3 [Vi value] 3, box B2 [.string key] 9, outer w0 [own tSlot Stt att ctt tt]]
   refine c_ret ?_
   refine q_block_ret (q_then_ret ?_)
   refine q_marks (i := 0) rfl ?_
   show SQ _ 37 w0 _ _ _ [box B4 [.bool rb] 4, box B1 [.slice att ls.length ctt] 22, own tSlot Stt att ctt ls, box B5_6 [Vi (tt.length : Int)] 3, box B5_6_1 [Vi (Tab.home key (tt.length : Int))] 3, box B3 [Vi value] 3, box B2 [.string key] 9, outer w0 [own tSlot Stt att ctt tt]]
   refine q_marks0 ?_
   have hr0 : (ls : List DSlot) = (Tab.put tt key value) := by
    first | exact hI.2 | exact hI.1 | exact (Tab.put_no (v := value) (hI.1.done (by omega))).2 | exact hI.2.trans (Tab.put_no (v := value) (hI.1.done (by omega))).1
   have hr1 : (rb : Bool) = (!decide (Tab.putAt tt key < 0)) := by
    first | exact hI.2 | exact hI.1 | exact (Tab.put_no (v := value) (hI.1.done (by omega))).2 | exact hI.2.trans (Tab.put_no (v := value) (hI.1.done (by omega))).1
   refine q_endX (p := ()) (rt1 rfl (r_cell1 (i := 0) rfl rfl sh4)) ?_ (fun w hw => ?_)
   ·exact (by have hcc := congr (congrArg (fun (y0 : List DSlot) (y1 : Bool) => (.bool y1 : Value)) hr0) hr1; exact hcc)
   ·have h2 := hw.pick (H' := [outer w0 [own tSlot Stt att ctt tt], own tSlot Stt att ctt ls]) [7, 2] (by decide) rfl
    exact Eq.mp (congrArg (fun z => HeapIs w0 ((outer w0 [own tSlot Stt att ctt tt]) :: z) w) ((by have hcc := congr (congrArg (fun (y0 : List DSlot) (y1 : Bool) => ([own tSlot Stt att ctt y0] : List Ent)) hr0) hr1; exact hcc))) h2

set_option maxHeartbeats 8000000 in
set_option maxRecDepth 100000 in
theorem clone_Slot_ok (l : List DSlot) (al : Option Addr) (cl : Nat) (hy1 : l.length ≤ 1000000) : FnM Try.prog 57 [.slice al l.length cl] (fun w => Rd tSlot w al cl l) (Option Addr × Nat) (fun p => .slice p.1 l.length p.2) (fun p S w => SlO tSlot S w p.1 p.2 l) := by
 refine fnM (nt := 8) (F0 := [(0, .slice al l.length cl)]) Try.func57 rfl Try.ntmps57 rfl rfl (fun w0 hpre => ?_)
 have hl := hpre
 have hlhl := hl.2.1
 refine c_seq (c_region ?_)
 refine o_as rfl rfl ?_
 refine o_nil (q_then (c_seq (c_seq (c_region ?_))))
 refine o_mv rfl rfl ?_
 refine o_p (p_eqNil rfl rfl Try.underlying22) ?_
 refine o_nil (q_then ?_)
 refine c_cond rfl (fun hc1 => ?_) (fun hc1 => ?_)
 ·skip
  refine c_seq (c_region ?_)
  refine o_as rfl rfl ?_
  refine o_nil (q_then (c_ret ?_))
  refine q_then_ret ?_
  have hr0 : ([] : List DSlot) = l := by
   first | exact (rd_isNone hl (by assumption)).symm | simp
  refine q_endM (p := (none, 0)) (fun _ => False) (rt1 rfl (r_tmp rfl)) (i := 0) rfl ?_ ?_ ?_
  ·exact (by have hcc := congrArg (fun (y0 : List DSlot) => (.slice none y0.length 0 : Value)) hr0; exact hcc)
  ·intro w hw b hb; exact hb.elim
  ·intro w hw; exact Eq.mp (congrArg (fun y => SlO tSlot _ w none 0 y) hr0) (SlO.nil tSlot w)
 ·skip
  refine c_skip (q_then (c_seq (c_region ?_)))
  refine o_buildSlice (m := 0) (T := tSlot) (L := []) (vs := []) rfl rfl rfl rfl Try.underlying22 sz33 (by decide) ze33 rfl (by decide) rfl (fun S2 a3 => ?_)
  refine o_mv rfl rfl ?_
  refine o_append (i := 0) (L := []) (M := l) (T := tSlot) rfl rfl rfl (rd_base (i := 1) rfl hl) Try.underlying22 Try.underlying22 (by intro k h; cases h) el33 (by intro z; simp [tSlot, one1]) (by decide) (by simp only [List.length_nil]; omega) rfl (fun a5 c6 S7 => ?_)
  refine o_as rfl rfl ?_
  refine o_nil (q_then (c_ret ?_))
  have hr0 : (([] ++ l) : List DSlot) = l := by
   first | exact (rd_isNone hl (by assumption)).symm | simp
  refine q_endM (p := (a5, c6)) S7 (rt1 rfl (r_tmp rfl)) (i := 1) rfl ?_ ?_ ?_
  ·exact (by have hcc := congrArg (fun (y0 : List DSlot) => (.slice a5 y0.length c6 : Value)) hr0; exact hcc)
  ·exact fun w hw => hw.above (i := 1) (j := 0) (by decide) rfl rfl
  ·intro w hw; exact Eq.mp (congrArg (fun y => SlO tSlot _ w a5 c6 y) hr0) ((hw.at (i := 0) rfl).here)

set_option maxHeartbeats 8000000 in
set_option maxRecDepth 100000 in
theorem tPut_ok (tt : List DSlot) (att : Option Addr) (ctt : Nat) (key : ByteArray) (value : Int) : FnM Try.prog 16 [.slice att tt.length ctt, .string key, Vi value] (fun w => Rd tSlot w att ctt tt) (Option Addr × Nat) (fun p => .tuple #[.slice p.1 (Tab.putR tt key value).length p.2, Vi (Tab.putErr tt key value)]) (fun p S w => SlO tSlot S w p.1 p.2 (Tab.putR tt key value)) := by
 refine fnM (nt := 31) (F0 := [(0, .slice att tt.length ctt), (1, .string key), (2, Vi value)]) Try.func16 rfl Try.ntmps16 rfl rfl (fun w0 hpre => ?_)
 have htt := hpre
 have hlhtt := htt.2.1
 refine c_seq (c_region ?_)
 refine o_as rfl rfl ?_
 refine o_as rfl rfl ?_
 refine o_nil (q_then (c_seq (c_seq (c_region ?_))))
 refine o_mv rfl rfl ?_
 refine o_call0 (v := Vi (Tab.check tt)) rfl (tcheck_ok tt att ctt) hf25 (fun w hw => (rd_base (i := 0) rfl htt) w hw) rfl ?_
 refine o_as rfl rfl ?_
 refine o_nil (q_then (c_seq (c_region ?_)))
 refine o_mv rfl rfl ?_
 refine o_p (p_ne rfl rfl) ?_
 refine o_nil (q_then ?_)
 refine c_cond rfl (fun hc1 => ?_) (fun hc1 => ?_)
 ·simp only [bne_iff_ne, ne_eq] at hc1
  refine c_seq (c_region ?_)
  refine o_mv rfl rfl ?_
  refine o_as rfl rfl ?_
  refine o_as rfl rfl ?_
  refine o_nil (q_then (c_ret ?_))
  refine q_then_ret ?_
  obtain ⟨c1, c2⟩ : _ ∧ _ := by first | exact Tab.p1 (t := tt) (key := key) (v := value) (by assumption) | exact Tab.p2 (t := tt) (key := key) (v := value) hck (by omega) | exact Tab.p2 (t := tt) (key := key) (v := value) hck hrg | exact Tab.p3 (t := tt) (key := key) (v := value) hck hrg (by simpa using hpt) | exact Tab.p4 (t := tt) (key := key) (v := value) hck hrg (by simpa using hpt)
  have hr0 : ([] : List DSlot) = (Tab.putR tt key value) := by
   first | exact c1.symm | exact c2.symm
  have hr1 : ((Tab.check tt) : Int) = (Tab.putErr tt key value) := by
   first | exact c1.symm | exact c2.symm
  refine q_endM (p := (none, 0)) (fun _ => False) (rt2 rfl (r_tmp rfl) (r_tmp rfl)) (i := 0) rfl ?_ ?_ ?_
  ·exact (by have hcc := congr (congrArg (fun (y0 : List DSlot) (y1 : Int) => (.tuple #[.slice none y0.length 0, .int .i64 y1] : Value)) hr0) hr1; exact hcc)
  ·intro w hw b hb; exact hb.elim
  ·intro w hw; exact Eq.mp (congrArg (fun y => SlO tSlot _ w none 0 y) hr0) (SlO.nil tSlot w)
 ·simp only [bne_eq_false_iff_eq] at hc1
  have hck := hc1
  have hln := Tab.ck_len hc1
  refine c_skip (q_then (c_seq (c_seq (c_region ?_))))
  refine o_mv rfl rfl ?_
  refine o_p (p_len_string rfl rfl Try.underlying9) ?_
  refine o_p (p_gt rfl rfl) ?_
  refine o_mv rfl rfl ?_
  refine o_or (p := 22) 4 (!(Tab.okVal value)) ?_ ?_ ?_
  ·intro hb2 hk
   simp only [decide_eq_false_iff_not, Int.not_lt] at hb2
   refine o_unguard 18 rfl rfl ?_
   refine o_mv rfl rfl ?_
   refine o_unguard 18 rfl rfl ?_
   refine o_call0 (v := .bool (Tab.okVal value)) rfl (tright_ok value) hf56 (fun _ _ => trivial) rfl ?_
   refine o_unguard 18 rfl rfl ?_
   refine o_p (p_not (b := (Tab.okVal value)) rfl) ?_
   refine o_pf rfl rfl rfl ?_
   exact o_sub (sr (Sub.skip rfl (Sub.skip rfl (Sub.skip rfl (Sub.skip rfl (Sub.skip rfl (Sub.refl _))))))) hk
  ·intro hb2 hk
   refine o_guard_no rfl 18 rfl rfl rfl rfl rfl ?_
   refine o_guard_no rfl 18 rfl rfl rfl rfl rfl ?_
   refine o_guard_no rfl 18 rfl rfl rfl rfl rfl ?_
   refine o_pt rfl rfl rfl ?_
   exact o_sub (sr (Sub.skip rfl (Sub.skip rfl (Sub.skip rfl (Sub.skip rfl (Sub.skip rfl (Sub.refl _))))))) hk
  refine o_nil (q_then ?_)
  refine c_cond rfl (fun hc3 => ?_) (fun hc3 => ?_)
  ·simp only [Bool.or_eq_true, decide_eq_true_eq, Bool.not_eq_true'] at hc3
   have hrg := hc3
   refine c_seq (c_region ?_)
   refine o_as rfl rfl ?_
   refine o_as rfl rfl ?_
   refine o_nil (q_then (c_ret ?_))
   refine q_then_ret ?_
   obtain ⟨c1, c2⟩ : _ ∧ _ := by first | exact Tab.p1 (t := tt) (key := key) (v := value) (by assumption) | exact Tab.p2 (t := tt) (key := key) (v := value) hck (by omega) | exact Tab.p2 (t := tt) (key := key) (v := value) hck hrg | exact Tab.p3 (t := tt) (key := key) (v := value) hck hrg (by simpa using hpt) | exact Tab.p4 (t := tt) (key := key) (v := value) hck hrg (by simpa using hpt)
   have hr0 : ([] : List DSlot) = (Tab.putR tt key value) := by
    first | exact c1.symm | exact c2.symm
   have hr1 : (3 : Int) = (Tab.putErr tt key value) := by
    first | exact c1.symm | exact c2.symm
   refine q_endM (p := (none, 0)) (fun _ => False) (rt2 rfl (r_tmp rfl) (r_tmp rfl)) (i := 0) rfl ?_ ?_ ?_
   ·exact (by have hcc := congr (congrArg (fun (y0 : List DSlot) (y1 : Int) => (.tuple #[.slice none y0.length 0, .int .i64 y1] : Value)) hr0) hr1; exact hcc)
   ·intro w hw b hb; exact hb.elim
   ·intro w hw; exact Eq.mp (congrArg (fun y => SlO tSlot _ w none 0 y) hr0) (SlO.nil tSlot w)
  ·simp only [Bool.or_eq_false_iff, decide_eq_false_iff_not, Int.not_lt, Bool.not_eq_false'] at hc3
   have hrg := hc3
   refine c_skip (q_then (c_seq (c_region ?_)))
   refine o_mv rfl rfl ?_
   refine o_callM rfl (clone_Slot_ok tt att ctt (by first | assumption | omega | (simp only [List.length_append, List.length_take, List.length_drop, List.length_cons, List.length_nil]; omega))) hf57 (fun w hw => (rd_base (i := 0) rfl htt) w hw) rfl (fun _ _ _ _ ha hA => SlO.agree ha hA) ?_
   rintro ⟨a6, c7⟩ S4
   refine o_know (fun w hw => own_len (i := 0) (T := tSlot) hw rfl) (fun hlr8 => ?_)
   refine o_as rfl rfl ?_
   refine o_nil (q_then (c_seq (c_seq (c_region ?_))))
   refine o_mv rfl rfl ?_
   refine o_mv rfl rfl ?_
   refine o_mv rfl rfl ?_
   refine o_callX (pre := [own tSlot S4 a6 c7 tt]) (R := [base w0]) rfl (tput_ok tt a6 c7 S4 key value (by first | assumption | omega)) hf58 rfl (fun _ _ => trivial) rfl ?_
   rintro ⟨⟩
   refine o_asH (H' := [own tSlot S4 a6 c7 (Tab.put tt key value), base w0]) rfl ?_
   refine o_cast (F' := [(9, .slice a6 (Tab.put tt key value).length c7), (28, .bool (!decide (Tab.putAt tt key < 0)))]) (H := [own tSlot S4 a6 c7 (Tab.put tt key value), base w0]) (H' := [own tSlot S4 a6 c7 (Tab.put tt key value), base w0]) (Sub.cons (by simp only [List.length_set, List.length_reverse, Tab.put_len]; rfl) (sr (Sub.nil _))) (by rfl) ?_
   refine o_p (p_not (b := (!decide (Tab.putAt tt key < 0))) rfl) ?_
   refine o_nil (q_then ?_)
   refine c_cond rfl (fun hc9 => ?_) (fun hc9 => ?_)
   ·simp only [Bool.not_eq_true', Bool.not_eq_false', decide_eq_true_eq] at hc9
    have hpt := hc9
    refine c_seq (c_region ?_)
    refine o_as rfl rfl ?_
    refine o_as rfl rfl ?_
    refine o_nil (q_then (c_ret ?_))
    refine q_then_ret ?_
    obtain ⟨c1, c2⟩ : _ ∧ _ := by first | exact Tab.p1 (t := tt) (key := key) (v := value) (by assumption) | exact Tab.p2 (t := tt) (key := key) (v := value) hck (by omega) | exact Tab.p2 (t := tt) (key := key) (v := value) hck hrg | exact Tab.p3 (t := tt) (key := key) (v := value) hck hrg (by simpa using hpt) | exact Tab.p4 (t := tt) (key := key) (v := value) hck hrg (by simpa using hpt)
    have hr0 : ([] : List DSlot) = (Tab.putR tt key value) := by
     first | exact c1.symm | exact c2.symm
    have hr1 : (8 : Int) = (Tab.putErr tt key value) := by
     first | exact c1.symm | exact c2.symm
    refine q_endM (p := (none, 0)) (fun _ => False) (rt2 rfl (r_tmp rfl) (r_tmp rfl)) (i := 1) rfl ?_ ?_ ?_
    ·exact (by have hcc := congr (congrArg (fun (y0 : List DSlot) (y1 : Int) => (.tuple #[.slice none y0.length 0, .int .i64 y1] : Value)) hr0) hr1; exact hcc)
    ·intro w hw b hb; exact hb.elim
    ·intro w hw; exact Eq.mp (congrArg (fun y => SlO tSlot _ w none 0 y) hr0) (SlO.nil tSlot w)
   ·simp only [Bool.not_eq_false', Bool.not_eq_true', decide_eq_false_iff_not, Int.not_lt] at hc9
    have hpt := hc9
    refine c_skip (q_then (c_seq (c_region ?_)))
    refine o_mv rfl rfl ?_
    refine o_as rfl rfl ?_
    refine o_as rfl rfl ?_
    refine o_nil (q_then (c_ret ?_))
    obtain ⟨c1, c2⟩ : _ ∧ _ := by first | exact Tab.p1 (t := tt) (key := key) (v := value) (by assumption) | exact Tab.p2 (t := tt) (key := key) (v := value) hck (by omega) | exact Tab.p2 (t := tt) (key := key) (v := value) hck hrg | exact Tab.p3 (t := tt) (key := key) (v := value) hck hrg (by simpa using hpt) | exact Tab.p4 (t := tt) (key := key) (v := value) hck hrg (by simpa using hpt)
    have hr0 : ((Tab.put tt key value) : List DSlot) = (Tab.putR tt key value) := by
     first | exact c1.symm | exact c2.symm
    have hr1 : (0 : Int) = (Tab.putErr tt key value) := by
     first | exact c1.symm | exact c2.symm
    refine q_endM (p := (a6, c7)) S4 (rt2 rfl (r_tmp rfl) (r_tmp rfl)) (i := 1) rfl ?_ ?_ ?_
    ·exact (by have hcc := congr (congrArg (fun (y0 : List DSlot) (y1 : Int) => (.tuple #[.slice a6 y0.length c7, .int .i64 y1] : Value)) hr0) hr1; exact hcc)
    ·exact fun w hw => hw.above (i := 1) (j := 0) (by decide) rfl rfl
    ·intro w hw; exact Eq.mp (congrArg (fun y => SlO tSlot _ w a6 c7 y) hr0) ((hw.at (i := 0) rfl).here)
end Go.Proofs.Ythecfjipaepcgaa

/- The walks, printed by a program from the translation and a specification. -/
namespace Go.Proofs.Ythecfjipaepcgaa
open Go.Sx Go.RowKit
set_option maxHeartbeats 8000000 in
set_option maxRecDepth 100000 in
theorem tdelete_ok (tt : List DSlot) (att : Option Addr) (ctt : Nat) (key : ByteArray) : FnM Try.prog 17 [.slice att tt.length ctt, .string key] (fun w => Rd tSlot w att ctt tt) (Option Addr × Nat) (fun p => .tuple #[.slice p.1 (Tab.delR tt key).length p.2, Vi (Tab.keyErr tt key)]) (fun p S w => SlO tSlot S w p.1 p.2 (Tab.delR tt key)) := by
 refine fnMR (nt := 89) (F0 := [(0, .slice att tt.length ctt), (1, .string key)]) Try.func17 rfl Try.ntmps17 rfl rfl (fun w0 hpre => ?_)
 have htt := hpre
 have hlhtt := htt.2.1
 refine c_seq (c_region ?_)
 refine o_alloc ze22 rfl (fun B1 => ?_)
 refine o_alloc ze23 rfl (fun B2 => ?_)
 refine o_nil (q_then (c_seq (c_seq (c_region ?_))))
 refine o_mv rfl rfl ?_
 refine o_mv rfl rfl ?_
 refine o_call0 (v := .tuple #[Vi (Tab.has tt key), Vi (Tab.looked tt key), Vi (Tab.keyErr tt key)]) rfl (tget_ok tt att ctt key) hf15 (fun w hw => (rd_base (i := 2) rfl htt) w hw) rfl ?_
 refine o_mv rfl rfl ?_
 refine o_ex rfl rfl rfl ?_
 refine o_ex rfl rfl rfl ?_
 refine o_ex rfl rfl rfl ?_
 refine o_as rfl rfl ?_
 refine o_as rfl rfl ?_
 refine o_as rfl rfl ?_
 refine o_nil (q_then (c_seq (c_region ?_)))
 refine o_mv rfl rfl ?_
 refine o_p (p_ne rfl rfl) ?_
 refine o_nil (q_then ?_)
 refine c_cond rfl (fun hc3 => ?_) (fun hc3 => ?_)
 ·simp only [bne_iff_ne, ne_eq] at hc3
  refine c_seq (c_region ?_)
  refine o_mv rfl rfl ?_
  refine o_store (i := 1) (v := .slice none 0 0) (cs' := [.slice none 0 0]) rfl rfl rfl sz22 rfl rfl rfl ?_
  refine o_store (i := 0) (v := Vi (Tab.keyErr tt key)) (cs' := [Vi (Tab.keyErr tt key)]) rfl rfl rfl sz23 rfl rfl rfl ?_
  refine o_nil (q_then (c_ret ?_))
  refine q_then_ret ?_
  refine q_marks0 ?_
  have hr0 : ([] : List DSlot) = (Tab.delR tt key) := by
   first | exact (Tab.del_bad (by assumption)).symm | exact (Tab.del_ok hke (hI.done (by omega))).symm | exact (Tab.del_ok hke hI.2).symm | exact hI.1.trans hke.symm | exact hke.symm | rfl
  refine q_endM (p := (none, 0)) (fun _ => False) (rt2 rfl (r_cell1 (i := 1) rfl rfl sh22) (r_cell1 (i := 0) rfl rfl sh23)) (i := 2) rfl ?_ ?_ ?_
  ·exact (by have hcc := congrArg (fun (y0 : List DSlot) => (.tuple #[.slice none y0.length 0, Vi (Tab.keyErr tt key)] : Value)) hr0; exact hcc)
  ·intro w hw b hb; exact hb.elim
  ·intro w hw; exact Eq.mp (congrArg (fun y => SlO tSlot _ w none 0 y) hr0) (SlO.nil tSlot w)
 ·simp only [bne_eq_false_iff_eq] at hc3
  have hke := hc3
  have hk0 := Tab.key_ok hc3
  have hln := Tab.ck_len hk0.1
  have hfb := Tab.find_lt key hln
  have hfp := hk0.2.2
  have hks := hk0.2.1
  refine c_skip (q_then (c_seq (c_region ?_)))
  refine o_mv rfl rfl ?_
  refine o_callM rfl (clone_Slot_ok tt att ctt (by first | assumption | omega | (simp only [List.length_append, List.length_take, List.length_drop, List.length_cons, List.length_nil]; omega))) hf57 (fun w hw => (rd_base (i := 2) rfl htt) w hw) rfl (fun _ _ _ _ ha hA => SlO.agree ha hA) ?_
  rintro ⟨a6, c7⟩ S4
  refine o_know (fun w hw => own_len (i := 0) (T := tSlot) hw rfl) (fun hlr8 => ?_)
  refine o_alloc ze22 rfl (fun B9 => ?_)
  refine o_store (i := 0) (v := .slice a6 tt.length c7) (cs' := [.slice a6 tt.length c7]) rfl rfl rfl sz22 rfl rfl rfl ?_
  refine o_nil (q_then (c_seq (c_region ?_)))
  refine o_p (p_load (i := 0) (v := .slice a6 tt.length c7) rfl rfl sh22 rfl) ?_
  refine o_mv rfl rfl ?_
  refine o_call0 (v := .tuple #[Vi ((Tab.find tt key).1), Vi ((Tab.find tt key).2)]) rfl (tfind_ok tt a6 c7 key (by first | assumption | omega)) hf55 (fun w hw => (rd_own (i := 1) rfl) w hw) rfl ?_
  refine o_mv rfl rfl ?_
  refine o_ex rfl rfl rfl ?_
  refine o_ex rfl rfl rfl ?_
  refine o_alloc ze3 rfl (fun B10 => ?_)
  refine o_store (i := 0) (v := Vi ((Tab.find tt key).1)) (cs' := [Vi ((Tab.find tt key).1)]) rfl rfl rfl sz3 rfl rfl rfl ?_
  refine o_as rfl rfl ?_
  refine o_nil (q_then (c_seq (c_region ?_)))
  refine o_p (p_load (i := 1) (v := .slice a6 tt.length c7) rfl rfl sh22 rfl) ?_
  refine o_p (p_load (i := 0) (v := Vi ((Tab.find tt key).1)) rfl rfl sh3 rfl) ?_
  refine o_p (p_build (cells := [.bool false, .string ByteArray.empty, Vi 0]) fp33 ze33 rfl rfl) ?_
  refine o_p (p_indexAddr (L := tt) (T := tSlot) (i := ((Tab.find tt key).1)) rfl rfl (rd_own (i := 2) rfl) Try.underlying22 sz33 (by omega) (by omega)) ?_
  refine o_storeW (i := 2) (T := tSlot) (idx := ((Tab.find tt key).1).toNat) (v := .agg #[.bool false, .string ByteArray.empty, Vi 0]) (vs := [.bool false, .string ByteArray.empty, Vi 0]) (z := (⟨false, ByteArray.empty, 0⟩ : DSlot)) (F' := [(4, .pointer (some ⟨B1, 0, none⟩)), (5, .pointer (some ⟨B2, 0, none⟩)), (9, .pointer (some ⟨B9, 0, none⟩)), (10, .pointer (some ⟨B10, 0, none⟩))]) rfl rfl rfl rfl (by first | assumption | omega | (simp only [List.length_set]; omega)) sz33 rfl rfl rfl rfl (sr (sr (sr (sr (Sub.nil _))))) ?_
  refine o_asH (H := [box B10 [Vi ((Tab.find tt key).1)] 3, box B9 [.slice a6 tt.length c7] 22, own tSlot S4 a6 c7 (tt.set (((Tab.find tt key).1).toNat) (⟨false, ByteArray.empty, 0⟩ : DSlot)), box B2 [Vi 0] 23, box B1 [.slice none 0 0] 22, base w0]) (H' := [box B10 [Vi ((Tab.find tt key).1)] 3, box B9 [.slice a6 (tt.set (((Tab.find tt key).1).toNat) (⟨false, ByteArray.empty, 0⟩ : DSlot)).length c7] 22, own tSlot S4 a6 c7 (tt.set (((Tab.find tt key).1).toNat) (⟨false, ByteArray.empty, 0⟩ : DSlot)), box B2 [Vi 0] 23, box B1 [.slice none 0 0] 22, base w0]) (by simp only [List.length_set]) ?_
  refine o_nil (q_then (c_seq (c_region ?_)))
  refine o_p (p_load (i := 1) (v := .slice a6 (tt.set (((Tab.find tt key).1).toNat) (⟨false, ByteArray.empty, 0⟩ : DSlot)).length c7) rfl rfl sh22 rfl) ?_
  refine o_p (p_eqv (u := Vi ((tt.set (((Tab.find tt key).1).toNat) (⟨false, ByteArray.empty, 0⟩ : DSlot)).length : Int)) (v := Vi (tt.length : Int)) (by simp only [List.length_set]) (p_len_slice rfl rfl Try.underlying22)) ?_
  refine o_alloc ze3 rfl (fun B11 => ?_)
  refine o_store (i := 0) (v := Vi (tt.length : Int)) (cs' := [Vi (tt.length : Int)]) rfl rfl rfl sz3 rfl rfl rfl ?_
  refine o_nil (q_then (c_seq (c_seq (c_region ?_))))
  refine o_p (p_load (i := 0) (v := Vi (tt.length : Int)) rfl rfl sh3 rfl) ?_
  refine o_p (p_load (i := 1) (v := Vi ((Tab.find tt key).1)) rfl rfl sh3 rfl) ?_
  refine o_callX (pre := []) (R := [box B11 [Vi (tt.length : Int)] 3, box B10 [Vi ((Tab.find tt key).1)] 3, box B9 [.slice a6 (tt.set (((Tab.find tt key).1).toNat) (⟨false, ByteArray.empty, 0⟩ : DSlot)).length c7] 22, own tSlot S4 a6 c7 (tt.set (((Tab.find tt key).1).toNat) (⟨false, ByteArray.empty, 0⟩ : DSlot)), box B2 [Vi 0] 23, box B1 [.slice none 0 0] 22, base w0]) rfl (tround_ok (tt.length : Int) ((Tab.find tt key).1)) hf59 rfl (fun _ _ => trivial) rfl ?_
  rintro ⟨B12, B13⟩
  refine o_asH (H' := [box B12 [Vi (tt.length : Int)] 3, box B13 [Vi ((Tab.find tt key).1)] 3, box B11 [Vi (tt.length : Int)] 3, box B10 [Vi ((Tab.find tt key).1)] 3, box B9 [.slice a6 (tt.set (((Tab.find tt key).1).toNat) (⟨false, ByteArray.empty, 0⟩ : DSlot)).length c7] 22, own tSlot S4 a6 c7 (tt.set (((Tab.find tt key).1).toNat) (⟨false, ByteArray.empty, 0⟩ : DSlot)), box B2 [Vi 0] 23, box B1 [.slice none 0 0] 22, base w0]) rfl ?_
  refine o_nil (q_then (c_block ?_))
  refine c_rangeFunc (f := 90) (caps := [.pointer (some ⟨B12, 0, none⟩), .pointer (some ⟨B13, 0, none⟩)]) (Pr := (fun e w => ((box B12 [Vi (tt.length : Int)] 3).A w ∧ (outer w [e]).S B12) ∧ ((box B13 [Vi ((Tab.find tt key).1)] 3).A w ∧ (outer w [e]).S B13))) (X := Unit) (encs := (fun x k => [Vi (Tab.place ((Tab.find tt key).1) (tt.length : Int) k)])) (E := (fun x k => [])) (N := (tt.length : Int).toNat) rfl hf90 (round1_ok (tt.length : Int) B12 ((Tab.find tt key).1) B13 (by first | omega | (simp only [List.length_set]; omega))) (fun _ _ => rfl) (by decide) (St := Int × Int × Value × List DSlot × Option Addr × Nat × (Nat → Prop))
   (fun ⟨ho, re, rv, ls, als, cls, Sls⟩ => [box B10 [Vi ho] 3, box B9 [.slice als ls.length cls] 22, own tSlot Sls als cls ls, box B2 [Vi re] 23, box B1 [rv] 22])
   (fun k ⟨ho, re, rv, ls, als, cls, Sls⟩ => Tab.DI tt key ls ho k)
   (fun c ⟨ho, re, rv, ls, als, cls, Sls⟩ => (c = .ret ∧ (rv = .slice als ls.length cls ∧ re = 0 ∧ ls = Tab.drop tt key)))
   [box B12 [Vi (tt.length : Int)] 3, box B13 [Vi ((Tab.find tt key).1)] 3, box B11 [Vi (tt.length : Int)] 3, base w0]
   (((Tab.find tt key).1), 0, (.slice none 0 0), (tt.set (((Tab.find tt key).1).toNat) (⟨false, ByteArray.empty, 0⟩ : DSlot)), a6, c7, S4) ?_ ?_ ?_ ?_ ?_ ?_
  ·exact Tab.DI.start hk0.1 hfp hfb.2
  ·exact fun w hw => hw.pick (H' := [box B10 [Vi ((Tab.find tt key).1)] 3, box B9 [.slice a6 (tt.set (((Tab.find tt key).1).toNat) (⟨false, ByteArray.empty, 0⟩ : DSlot)).length c7] 22, own tSlot S4 a6 c7 (tt.set (((Tab.find tt key).1).toNat) (⟨false, ByteArray.empty, 0⟩ : DSlot)), box B2 [Vi 0] 23, box B1 [.slice none 0 0] 22, box B12 [Vi (tt.length : Int)] 3, box B13 [Vi ((Tab.find tt key).1)] 3, box B11 [Vi (tt.length : Int)] 3, base w0]) [3, 4, 5, 6, 7, 0, 1, 2, 8] (by decide) rfl
  ·intro D e0 W1 hW1
   exact ⟨boxX (i := 2) (js := [0]) rfl (by decide) rfl W1 hW1, boxX (i := 3) (js := [0]) rfl (by decide) rfl W1 hW1⟩
  ·rintro l_ rc D e0 W1 hW1 x_ k ⟨ho, re, rv, ls, als, cls, Sls⟩ hk hI
   have hll := hI.len
   have hhb := hI.hob
   have hpb := Tab.place_bd (h := (Tab.find tt key).1) (n := (tt.length : Int)) (by omega) (by omega) k
   have hkk := hI.key hpb
   have hn64 : (tt.length : Int) ≤ 64 := by omega
   have hom := Tab.home_bd (ls.getD (Tab.place (Tab.find tt key).1 (tt.length : Int) k).toNat default).key (n := (tt.length : Int)) (by omega)
   have hobr0_B11 := boxX (i := 4) (B := B11) (cs := [Vi (tt.length : Int)]) (U := 3) (js := [0]) (pre := [e0]) rfl (by decide) rfl W1 hW1
   refine c_region ?_
   refine o_as rfl rfl ?_
   refine o_nil ?_
   refine q_begin (i := 1) rfl ?_
   refine c_block (c_block (c_seq (c_region ?_)))
   refine o_mv rfl rfl ?_
   refine o_p (p_load (i := 2) (v := Vi ho) rfl rfl sh3 rfl) ?_
   refine o_p (p_eq rfl rfl) ?_
   refine o_as rfl rfl ?_
   refine o_nil (q_then ?_)
   refine c_cond rfl (fun hc14 => ?_) (fun hc14 => ?_)
   ·simp only [beq_iff_eq] at hc14
    have heq := hc14
    refine c_exit ?_
    refine q_block_pass rfl (q_block_exit ?_)
    refine q_next (ho, re, (rv), ls, als, cls, Sls) ?_ (fun w hw => hw.pick (H' := [outer W1 [e0], loopE l_ (recd rc .busy none), box B10 [Vi ho] 3, box B9 [.slice als ls.length cls] 22, own tSlot Sls als cls ls, box B2 [Vi re] 23, box B1 [rv] 22]) [0, 1, 2, 3, 4, 5, 6] (by decide) rfl)
    first | exact hI.same (by omega) heq | exact hI.move hpb (by omega) heq hu hmv | exact hI.keep (by omega) heq hu hmv
   ·simp only [beq_eq_false_iff_ne, ne_eq] at hc14
    have heq := hc14
    refine c_seq (c_region ?_)
    refine o_p (p_load (i := 3) (v := .slice als ls.length cls) rfl rfl sh22 rfl) ?_
    refine o_mv rfl rfl ?_
    refine o_p (p_indexAddr (L := ls) (T := tSlot) (i := (Tab.place ((Tab.find tt key).1) (tt.length : Int) k)) rfl rfl (rd_own (i := 4) rfl) Try.underlying22 sz33 (by omega) (by omega)) ?_
    refine o_p (p_fieldAddrE rfl fo33_0) ?_
    refine o_p (p_loadF (i := (Tab.place ((Tab.find tt key).1) (tt.length : Int) k).toNat) (j := 0) (T := tSlot) (L := ls) (v := .bool ((ls.getD ((Tab.place ((Tab.find tt key).1) (tt.length : Int) k).toNat) default).used)) rfl (rd_own (i := 4) rfl) (by first | assumption | omega) sh4 (congrArg (fun z => (tSlot.enc z)[0]?) (getd_at (by first | assumption | omega) default))) ?_
    refine o_p (p_not (b := (ls.getD ((Tab.place ((Tab.find tt key).1) (tt.length : Int) k).toNat) default).used) rfl) ?_
    refine o_as rfl rfl ?_
    refine o_nil (q_then ?_)
    refine c_cond rfl (fun hc15 => ?_) (fun hc15 => ?_)
    ·simp only [Bool.not_eq_true'] at hc15
     have hu := hc15
     refine c_seq (c_region ?_)
     refine o_p (p_load (i := 3) (v := .slice als ls.length cls) rfl rfl sh22 rfl) ?_
     refine o_store (i := 6) (v := .slice als ls.length cls) (cs' := [.slice als ls.length cls]) rfl rfl rfl sz22 rfl rfl rfl ?_
     refine o_store (i := 5) (v := Vi 0) (cs' := [Vi 0]) rfl rfl rfl sz23 rfl rfl rfl ?_
     refine o_nil (q_then (c_ret ?_))
     refine q_block_ret (q_block_ret ?_)
     refine q_leave (ho, 0, (.slice als ls.length cls), ls, als, cls, Sls) ?_ (fun w hw => hw.pick (H' := [outer W1 [e0], loopE l_ (recd rc .busy none), box B10 [Vi ho] 3, box B9 [.slice als ls.length cls] 22, own tSlot Sls als cls ls, box B2 [Vi 0] 23, box B1 [.slice als ls.length cls] 22]) [0, 1, 2, 3, 4, 5, 6] (by decide) rfl)
     refine ⟨rfl, ?_⟩
     exact ⟨rfl, rfl, hI.stop (by omega) heq hu⟩
    ·simp only [Bool.not_eq_false'] at hc15
     have hu := hc15
     refine c_seq ?_
     refine c_drawR hmix (by decide) (fun _ _ h => h) (by kernel_rfl) ?_
     refine w_mv rfl rfl ?_
     refine w_p (p_load (i := 3) (v := .slice als ls.length cls) rfl rfl sh22 rfl) ?_
     refine w_mv rfl rfl ?_
     refine w_p (p_indexAddr (L := ls) (T := tSlot) (i := (Tab.place ((Tab.find tt key).1) (tt.length : Int) k)) rfl rfl (rd_own (i := 4) rfl) Try.underlying22 sz33 (by omega) (by omega)) ?_
     refine w_p (p_fieldAddrE rfl fo33_1) ?_
     refine w_p (p_loadF (i := (Tab.place ((Tab.find tt key).1) (tt.length : Int) k).toNat) (j := 1) (T := tSlot) (L := ls) (v := .string ((ls.getD ((Tab.place ((Tab.find tt key).1) (tt.length : Int) k).toNat) default).key)) rfl (rd_own (i := 4) rfl) (by first | assumption | omega) sh9 (congrArg (fun z => (tSlot.enc z)[1]?) (getd_at (by first | assumption | omega) default))) ?_
     refine w_p (p_loadR (v := Vi (tt.length : Int)) rfl (rbox_outer (i := 0) rfl hobr0_B11) sh3 rfl) ?_
     refine w_call0 (v := Vi (Tab.home ((ls.getD ((Tab.place ((Tab.find tt key).1) (tt.length : Int) k).toNat) default).key) (tt.length : Int))) rfl (thome_ok ((ls.getD ((Tab.place ((Tab.find tt key).1) (tt.length : Int) k).toNat) default).key) (tt.length : Int) (by first | assumption | omega | exact hy1.2.2.2 | exact hy1.2.2)) hf60 (fun _ _ => trivial) rfl ?_
     refine w_p (p_subb rfl rfl (Tab.in1 hpb hom hn64)) ?_
     refine w_p (p_loadR (v := Vi (tt.length : Int)) rfl (rbox_outer (i := 0) rfl hobr0_B11) sh3 rfl) ?_
     refine w_p (p_addb rfl rfl (Tab.in2 hpb hom hn64)) ?_
     refine w_p (p_loadR (v := Vi (tt.length : Int)) rfl (rbox_outer (i := 0) rfl hobr0_B11) sh3 rfl) ?_
     refine w_p (p_rem (p := (((Tab.place ((Tab.find tt key).1) (tt.length : Int) k) - (Tab.home ((ls.getD ((Tab.place ((Tab.find tt key).1) (tt.length : Int) k).toNat) default).key) (tt.length : Int))) + (tt.length : Int))) (q := (tt.length : Int)) rfl rfl (by omega)) ?_
     refine w_mv rfl rfl ?_
     refine w_p (p_load (i := 2) (v := Vi ho) rfl rfl sh3 rfl) ?_
     refine w_p (p_subb rfl rfl (by omega)) ?_
     refine w_p (p_loadR (v := Vi (tt.length : Int)) rfl (rbox_outer (i := 0) rfl hobr0_B11) sh3 rfl) ?_
     refine w_p (p_addb rfl rfl (by omega)) ?_
     refine w_p (p_loadR (v := Vi (tt.length : Int)) rfl (rbox_outer (i := 0) rfl hobr0_B11) sh3 rfl) ?_
     refine w_p (p_rem (p := (((Tab.place ((Tab.find tt key).1) (tt.length : Int) k) - ho) + (tt.length : Int))) (q := (tt.length : Int)) rfl rfl (by omega)) ?_
     refine w_p (p_ge rfl rfl) ?_
     refine w_p (p_assign rfl) ?_
     refine w_nil (q_then ?_)
     refine c_cond rfl (fun hc16 => ?_) (fun hc16 => ?_)
     ·simp only [decide_eq_true_eq] at hc16
      have hmv := hc16
      refine c_cut (G := Unit) (fun _ => []) (fun _ => [outer W1 [e0], loopE l_ (recd rc .busy none), box B10 [Vi (Tab.place ((Tab.find tt key).1) (tt.length : Int) k)] 3, box B9 [.slice als ls.length cls] 22, own tSlot Sls als cls ((ls.set ho.toNat (ls.getD ((Tab.place ((Tab.find tt key).1) (tt.length : Int) k).toNat) default)).set ((Tab.place ((Tab.find tt key).1) (tt.length : Int) k).toNat) (⟨false, ByteArray.empty, 0⟩ : DSlot)), box B2 [Vi re] 23, box B1 [rv] 22]) (fun K hK18 => ?_) ?_
      ·refine c_heldR hmix (by decide) (fun _ _ h => h) [outer W1 [e0], loopE l_ (recd rc .busy none), box B9 [.slice als ls.length cls] 22, box B2 [Vi re] 23, box B1 [rv] 22] rfl rfl ?_
       refine h_tk (i := 0) (ls := #[T1,F0,F0,F0,F0,F0,F0,F0,F0,F0,F0,F0,F0,F0,F0]) rfl (p_load (i := 2) (v := .slice als ls.length cls) rfl rfl sh22 rfl) (dp (lj (lj (lz (lj (lz (lj (lj (ln))))))))) ?_
       refine h_tk (i := 2) (ls := #[T1,F0,T1,F0,F0,F0,F0,F0,F0,F0,F0,F0,F0,F0,F0]) rfl (p_load (i := 2) (v := .slice als ls.length cls) rfl rfl sh22 rfl) (dp (lj (lj (lz (lj (lz (lj (lj (ln))))))))) ?_
       refine h_tk (i := 3) (ls := #[T1,F0,T1,T1,F0,F0,F0,F0,F0,F0,F0,F0,F0,F0,F0]) rfl (p_move rfl) (dp (lj (lj (lz (lj (lz (lj (lj (ln))))))))) ?_
       refine h_tk (i := 4) (ls := #[T1,F0,T1,T1,T1,F0,F0,F0,F0,F0,F0,F0,F0,F0,F0]) rfl (p_load (i := 2) (v := .slice als ls.length cls) rfl rfl sh22 rfl) (dp (lj (lj (lz (lj (lz (lj (lj (ln))))))))) ?_
       refine h_tk (i := 5) (ls := #[T1,F0,T1,T1,T1,T1,F0,F0,F0,F0,F0,F0,F0,F0,F0]) rfl (p_move rfl) (dp (lj (lj (lz (lj (lz (lj (lj (ln))))))))) ?_
       refine h_tk (i := 8) (ls := #[T1,F0,T1,T1,T1,T1,F0,F0,T1,F0,F0,F0,F0,F0,F0]) rfl (p_build (cells := [.bool false, .string ByteArray.empty, Vi 0]) fp33 ze33 rfl rfl) (dp (lj (lj (lz (lj (lz (lj (lj (ln))))))))) ?_
       refine h_tk (i := 9) (ls := #[T1,F0,T1,T1,T1,T1,F0,F0,T1,T1,F0,F0,F0,F0,F0]) rfl (p_move rfl) (dp (lj (lj (lz (lj (lz (lj (lj (ln))))))))) ?_
       refine h_two (i := 1) (j := 6) (ls := #[T1,T1,T1,T1,T1,T1,F0,F0,T1,T1,F0,F0,F0,F0,F0]) (ls' := #[T1,F0,T1,T1,T1,T1,T1,F0,T1,T1,F0,F0,F0,F0,F0]) (by kernel_rfl) rfl rfl rfl rfl ?_ ?_
       ·refine o_p (p_load (i := 2) (v := Vi ho) rfl rfl sh3 rfl) ?_
        refine o_nil ?_
        refine h_next (dp (lj (lj (lz (lj (lz (lj (lj (ln))))))))) ?_
        refine h_one (i := 6) (ls := #[T1,T1,T1,T1,T1,T1,T1,F0,T1,T1,F0,F0,F0,F0,F0]) (by kernel_rfl) rfl rfl ?_
        refine o_p (p_indexAddr (L := ls) (T := tSlot) (i := (Tab.place ((Tab.find tt key).1) (tt.length : Int) k)) rfl rfl (rd_own (i := 4) rfl) Try.underlying22 sz33 (by omega) (by omega)) ?_
        refine o_nil ?_
        refine h_next (dp (lj (lj (lz (lj (lz (lj (lj (ln))))))))) ?_
        refine h_one (i := 7) (ls := #[T1,T1,T1,T1,T1,T1,T1,T1,T1,T1,F0,F0,F0,F0,F0]) (by kernel_rfl) rfl rfl ?_
        refine o_p (p_loadEn (i := (Tab.place ((Tab.find tt key).1) (tt.length : Int) k).toNat) (T := tSlot) (L := ls) (vs := [.bool ((ls.getD ((Tab.place ((Tab.find tt key).1) (tt.length : Int) k).toNat) default).used), .string ((ls.getD ((Tab.place ((Tab.find tt key).1) (tt.length : Int) k).toNat) default).key), Vi ((ls.getD ((Tab.place ((Tab.find tt key).1) (tt.length : Int) k).toNat) default).value)]) rfl (rd_own (i := 4) rfl) (by first | assumption | omega) sh33 (congrArg tSlot.enc (getd_at (by first | assumption | omega) default))) ?_
        refine o_nil ?_
        refine h_next (dp (lj (lj (lz (lj (lz (lj (lj (ln))))))))) ?_
        refine h_one (i := 10) (ls := #[T1,T1,T1,T1,T1,T1,T1,T1,T1,T1,T1,F0,F0,F0,F0]) (by kernel_rfl) rfl rfl ?_
        refine o_p (p_indexAddr (L := ls) (T := tSlot) (i := ho) rfl rfl (rd_own (i := 4) rfl) Try.underlying22 sz33 (by omega) (by omega)) ?_
        refine o_nil ?_
        refine h_next (dp (lj (lj (lz (lj (lz (lj (lj (ln))))))))) ?_
        refine h_one (i := 11) (ls := #[T1,T1,T1,T1,T1,T1,T1,T1,T1,T1,T1,T1,F0,F0,F0]) (by kernel_rfl) rfl rfl ?_
        refine o_storeW (i := 4) (T := tSlot) (idx := ho.toNat) (v := .agg #[.bool ((ls.getD ((Tab.place ((Tab.find tt key).1) (tt.length : Int) k).toNat) default).used), .string ((ls.getD ((Tab.place ((Tab.find tt key).1) (tt.length : Int) k).toNat) default).key), Vi ((ls.getD ((Tab.place ((Tab.find tt key).1) (tt.length : Int) k).toNat) default).value)]) (vs := [.bool ((ls.getD ((Tab.place ((Tab.find tt key).1) (tt.length : Int) k).toNat) default).used), .string ((ls.getD ((Tab.place ((Tab.find tt key).1) (tt.length : Int) k).toNat) default).key), Vi ((ls.getD ((Tab.place ((Tab.find tt key).1) (tt.length : Int) k).toNat) default).value)]) (z := (ls.getD ((Tab.place ((Tab.find tt key).1) (tt.length : Int) k).toNat) default)) rfl rfl rfl rfl (by first | assumption | omega | (simp only [List.length_set]; omega)) sz33 rfl rfl rfl rfl (Sub.refl _) ?_
        refine o_nil ?_
        refine h_next (dp (lj (lj (lz (lj (lz (lj (lj (ln))))))))) ?_
        refine h_one (i := 12) (ls := #[T1,T1,T1,T1,T1,T1,T1,T1,T1,T1,T1,T1,T1,F0,F0]) (by kernel_rfl) rfl rfl ?_
        refine o_p (p_indexAddrS (T := tSlot) (i := (Tab.place ((Tab.find tt key).1) (tt.length : Int) k)) (j := 4) (m := ls.length) rfl rfl rfl (by simp only [List.length_set]) Try.underlying22 sz33 (by omega) (by omega)) ?_
        refine o_nil ?_
        refine h_next (dp (lj (lj (lz (lj (lz (lj (lj (ln))))))))) ?_
        refine h_one (i := 13) (ls := #[T1,T1,T1,T1,T1,T1,T1,T1,T1,T1,T1,T1,T1,T1,F0]) (by kernel_rfl) rfl rfl ?_
        refine o_storeW (i := 4) (T := tSlot) (idx := (Tab.place ((Tab.find tt key).1) (tt.length : Int) k).toNat) (v := .agg #[.bool false, .string ByteArray.empty, Vi 0]) (vs := [.bool false, .string ByteArray.empty, Vi 0]) (z := (⟨false, ByteArray.empty, 0⟩ : DSlot)) rfl rfl rfl rfl (by first | assumption | omega | (simp only [List.length_set]; omega)) sz33 rfl rfl rfl rfl (Sub.refl _) ?_
        refine o_nil ?_
        refine h_next (dp (lj (lj (lz (lj (lz (lj (lj (ln))))))))) ?_
        refine h_one (i := 14) (ls := #[T1,T1,T1,T1,T1,T1,T1,T1,T1,T1,T1,T1,T1,T1,T1]) (by kernel_rfl) rfl rfl ?_
        refine o_store (i := 2) (v := Vi (Tab.place ((Tab.find tt key).1) (tt.length : Int) k)) (cs' := [Vi (Tab.place ((Tab.find tt key).1) (tt.length : Int) k)]) rfl rfl rfl sz3 rfl rfl rfl ?_
        refine o_nil ?_
        refine h_next (dp (lj (lj (lz (lj (lz (lj (lj (ln))))))))) ?_
        refine h_done (by kernel_rfl) ?_
        refine q_kont hK18 () (Sub.nil _) (pk [0, 1, 2, 3, 4, 5, 6])
       ·refine o_p (p_indexAddr (L := ls) (T := tSlot) (i := (Tab.place ((Tab.find tt key).1) (tt.length : Int) k)) rfl rfl (rd_own (i := 4) rfl) Try.underlying22 sz33 (by omega) (by omega)) ?_
        refine o_nil ?_
        refine h_next (dp (lj (lj (lz (lj (lz (lj (lj (ln))))))))) ?_
        refine h_two (i := 1) (j := 7) (ls := #[T1,T1,T1,T1,T1,T1,T1,F0,T1,T1,F0,F0,F0,F0,F0]) (ls' := #[T1,F0,T1,T1,T1,T1,T1,T1,T1,T1,F0,F0,F0,F0,F0]) (by kernel_rfl) rfl rfl rfl rfl ?_ ?_
        ·refine o_p (p_load (i := 2) (v := Vi ho) rfl rfl sh3 rfl) ?_
         refine o_nil ?_
         refine h_next (dp (lj (lj (lz (lj (lz (lj (lj (ln))))))))) ?_
         refine h_one (i := 7) (ls := #[T1,T1,T1,T1,T1,T1,T1,T1,T1,T1,F0,F0,F0,F0,F0]) (by kernel_rfl) rfl rfl ?_
         refine o_p (p_loadEn (i := (Tab.place ((Tab.find tt key).1) (tt.length : Int) k).toNat) (T := tSlot) (L := ls) (vs := [.bool ((ls.getD ((Tab.place ((Tab.find tt key).1) (tt.length : Int) k).toNat) default).used), .string ((ls.getD ((Tab.place ((Tab.find tt key).1) (tt.length : Int) k).toNat) default).key), Vi ((ls.getD ((Tab.place ((Tab.find tt key).1) (tt.length : Int) k).toNat) default).value)]) rfl (rd_own (i := 4) rfl) (by first | assumption | omega) sh33 (congrArg tSlot.enc (getd_at (by first | assumption | omega) default))) ?_
         refine o_nil ?_
         refine h_next (dp (lj (lj (lz (lj (lz (lj (lj (ln))))))))) ?_
         refine h_one (i := 10) (ls := #[T1,T1,T1,T1,T1,T1,T1,T1,T1,T1,T1,F0,F0,F0,F0]) (by kernel_rfl) rfl rfl ?_
         refine o_p (p_indexAddr (L := ls) (T := tSlot) (i := ho) rfl rfl (rd_own (i := 4) rfl) Try.underlying22 sz33 (by omega) (by omega)) ?_
         refine o_nil ?_
         refine h_next (dp (lj (lj (lz (lj (lz (lj (lj (ln))))))))) ?_
         refine h_one (i := 11) (ls := #[T1,T1,T1,T1,T1,T1,T1,T1,T1,T1,T1,T1,F0,F0,F0]) (by kernel_rfl) rfl rfl ?_
         refine o_storeW (i := 4) (T := tSlot) (idx := ho.toNat) (v := .agg #[.bool ((ls.getD ((Tab.place ((Tab.find tt key).1) (tt.length : Int) k).toNat) default).used), .string ((ls.getD ((Tab.place ((Tab.find tt key).1) (tt.length : Int) k).toNat) default).key), Vi ((ls.getD ((Tab.place ((Tab.find tt key).1) (tt.length : Int) k).toNat) default).value)]) (vs := [.bool ((ls.getD ((Tab.place ((Tab.find tt key).1) (tt.length : Int) k).toNat) default).used), .string ((ls.getD ((Tab.place ((Tab.find tt key).1) (tt.length : Int) k).toNat) default).key), Vi ((ls.getD ((Tab.place ((Tab.find tt key).1) (tt.length : Int) k).toNat) default).value)]) (z := (ls.getD ((Tab.place ((Tab.find tt key).1) (tt.length : Int) k).toNat) default)) rfl rfl rfl rfl (by first | assumption | omega | (simp only [List.length_set]; omega)) sz33 rfl rfl rfl rfl (Sub.refl _) ?_
         refine o_nil ?_
         refine h_next (dp (lj (lj (lz (lj (lz (lj (lj (ln))))))))) ?_
         refine h_one (i := 12) (ls := #[T1,T1,T1,T1,T1,T1,T1,T1,T1,T1,T1,T1,T1,F0,F0]) (by kernel_rfl) rfl rfl ?_
         refine o_p (p_indexAddrS (T := tSlot) (i := (Tab.place ((Tab.find tt key).1) (tt.length : Int) k)) (j := 4) (m := ls.length) rfl rfl rfl (by simp only [List.length_set]) Try.underlying22 sz33 (by omega) (by omega)) ?_
         refine o_nil ?_
         refine h_next (dp (lj (lj (lz (lj (lz (lj (lj (ln))))))))) ?_
         refine h_one (i := 13) (ls := #[T1,T1,T1,T1,T1,T1,T1,T1,T1,T1,T1,T1,T1,T1,F0]) (by kernel_rfl) rfl rfl ?_
         refine o_storeW (i := 4) (T := tSlot) (idx := (Tab.place ((Tab.find tt key).1) (tt.length : Int) k).toNat) (v := .agg #[.bool false, .string ByteArray.empty, Vi 0]) (vs := [.bool false, .string ByteArray.empty, Vi 0]) (z := (⟨false, ByteArray.empty, 0⟩ : DSlot)) rfl rfl rfl rfl (by first | assumption | omega | (simp only [List.length_set]; omega)) sz33 rfl rfl rfl rfl (Sub.refl _) ?_
         refine o_nil ?_
         refine h_next (dp (lj (lj (lz (lj (lz (lj (lj (ln))))))))) ?_
         refine h_one (i := 14) (ls := #[T1,T1,T1,T1,T1,T1,T1,T1,T1,T1,T1,T1,T1,T1,T1]) (by kernel_rfl) rfl rfl ?_
         refine o_store (i := 2) (v := Vi (Tab.place ((Tab.find tt key).1) (tt.length : Int) k)) (cs' := [Vi (Tab.place ((Tab.find tt key).1) (tt.length : Int) k)]) rfl rfl rfl sz3 rfl rfl rfl ?_
         refine o_nil ?_
         refine h_next (dp (lj (lj (lz (lj (lz (lj (lj (ln))))))))) ?_
         refine h_done (by kernel_rfl) ?_
         refine q_kont hK18 () (Sub.nil _) (pk [0, 1, 2, 3, 4, 5, 6])
        ·refine o_p (p_loadEn (i := (Tab.place ((Tab.find tt key).1) (tt.length : Int) k).toNat) (T := tSlot) (L := ls) (vs := [.bool ((ls.getD ((Tab.place ((Tab.find tt key).1) (tt.length : Int) k).toNat) default).used), .string ((ls.getD ((Tab.place ((Tab.find tt key).1) (tt.length : Int) k).toNat) default).key), Vi ((ls.getD ((Tab.place ((Tab.find tt key).1) (tt.length : Int) k).toNat) default).value)]) rfl (rd_own (i := 4) rfl) (by first | assumption | omega) sh33 (congrArg tSlot.enc (getd_at (by first | assumption | omega) default))) ?_
         refine o_nil ?_
         refine h_next (dp (lj (lj (lz (lj (lz (lj (lj (ln))))))))) ?_
         refine h_one (i := 1) (ls := #[T1,T1,T1,T1,T1,T1,T1,T1,T1,T1,F0,F0,F0,F0,F0]) (by kernel_rfl) rfl rfl ?_
         refine o_p (p_load (i := 2) (v := Vi ho) rfl rfl sh3 rfl) ?_
         refine o_nil ?_
         refine h_next (dp (lj (lj (lz (lj (lz (lj (lj (ln))))))))) ?_
         refine h_one (i := 10) (ls := #[T1,T1,T1,T1,T1,T1,T1,T1,T1,T1,T1,F0,F0,F0,F0]) (by kernel_rfl) rfl rfl ?_
         refine o_p (p_indexAddr (L := ls) (T := tSlot) (i := ho) rfl rfl (rd_own (i := 4) rfl) Try.underlying22 sz33 (by omega) (by omega)) ?_
         refine o_nil ?_
         refine h_next (dp (lj (lj (lz (lj (lz (lj (lj (ln))))))))) ?_
         refine h_one (i := 11) (ls := #[T1,T1,T1,T1,T1,T1,T1,T1,T1,T1,T1,T1,F0,F0,F0]) (by kernel_rfl) rfl rfl ?_
         refine o_storeW (i := 4) (T := tSlot) (idx := ho.toNat) (v := .agg #[.bool ((ls.getD ((Tab.place ((Tab.find tt key).1) (tt.length : Int) k).toNat) default).used), .string ((ls.getD ((Tab.place ((Tab.find tt key).1) (tt.length : Int) k).toNat) default).key), Vi ((ls.getD ((Tab.place ((Tab.find tt key).1) (tt.length : Int) k).toNat) default).value)]) (vs := [.bool ((ls.getD ((Tab.place ((Tab.find tt key).1) (tt.length : Int) k).toNat) default).used), .string ((ls.getD ((Tab.place ((Tab.find tt key).1) (tt.length : Int) k).toNat) default).key), Vi ((ls.getD ((Tab.place ((Tab.find tt key).1) (tt.length : Int) k).toNat) default).value)]) (z := (ls.getD ((Tab.place ((Tab.find tt key).1) (tt.length : Int) k).toNat) default)) rfl rfl rfl rfl (by first | assumption | omega | (simp only [List.length_set]; omega)) sz33 rfl rfl rfl rfl (Sub.refl _) ?_
         refine o_nil ?_
         refine h_next (dp (lj (lj (lz (lj (lz (lj (lj (ln))))))))) ?_
         refine h_one (i := 12) (ls := #[T1,T1,T1,T1,T1,T1,T1,T1,T1,T1,T1,T1,T1,F0,F0]) (by kernel_rfl) rfl rfl ?_
         refine o_p (p_indexAddrS (T := tSlot) (i := (Tab.place ((Tab.find tt key).1) (tt.length : Int) k)) (j := 4) (m := ls.length) rfl rfl rfl (by simp only [List.length_set]) Try.underlying22 sz33 (by omega) (by omega)) ?_
         refine o_nil ?_
         refine h_next (dp (lj (lj (lz (lj (lz (lj (lj (ln))))))))) ?_
         refine h_one (i := 13) (ls := #[T1,T1,T1,T1,T1,T1,T1,T1,T1,T1,T1,T1,T1,T1,F0]) (by kernel_rfl) rfl rfl ?_
         refine o_storeW (i := 4) (T := tSlot) (idx := (Tab.place ((Tab.find tt key).1) (tt.length : Int) k).toNat) (v := .agg #[.bool false, .string ByteArray.empty, Vi 0]) (vs := [.bool false, .string ByteArray.empty, Vi 0]) (z := (⟨false, ByteArray.empty, 0⟩ : DSlot)) rfl rfl rfl rfl (by first | assumption | omega | (simp only [List.length_set]; omega)) sz33 rfl rfl rfl rfl (Sub.refl _) ?_
         refine o_nil ?_
         refine h_next (dp (lj (lj (lz (lj (lz (lj (lj (ln))))))))) ?_
         refine h_one (i := 14) (ls := #[T1,T1,T1,T1,T1,T1,T1,T1,T1,T1,T1,T1,T1,T1,T1]) (by kernel_rfl) rfl rfl ?_
         refine o_store (i := 2) (v := Vi (Tab.place ((Tab.find tt key).1) (tt.length : Int) k)) (cs' := [Vi (Tab.place ((Tab.find tt key).1) (tt.length : Int) k)]) rfl rfl rfl sz3 rfl rfl rfl ?_
         refine o_nil ?_
         refine h_next (dp (lj (lj (lz (lj (lz (lj (lj (ln))))))))) ?_
         refine h_done (by kernel_rfl) ?_
         refine q_kont hK18 () (Sub.nil _) (pk [0, 1, 2, 3, 4, 5, 6])
      rintro _
      show SQ _ 89 W1 _ _ [] [outer W1 [e0], loopE l_ (recd rc .busy none), box B10 [Vi (Tab.place ((Tab.find tt key).1) (tt.length : Int) k)] 3, box B9 [.slice als ls.length cls] 22, own tSlot Sls als cls ((ls.set ho.toNat (ls.getD ((Tab.place ((Tab.find tt key).1) (tt.length : Int) k).toNat) default)).set ((Tab.place ((Tab.find tt key).1) (tt.length : Int) k).toNat) (⟨false, ByteArray.empty, 0⟩ : DSlot)), box B2 [Vi re] 23, box B1 [rv] 22]
      refine q_cast (F' := []) (H := [outer W1 [e0], loopE l_ (recd rc .busy none), box B10 [Vi (Tab.place ((Tab.find tt key).1) (tt.length : Int) k)] 3, box B9 [.slice als ls.length cls] 22, own tSlot Sls als cls ((ls.set ho.toNat (ls.getD ((Tab.place ((Tab.find tt key).1) (tt.length : Int) k).toNat) default)).set ((Tab.place ((Tab.find tt key).1) (tt.length : Int) k).toNat) (⟨false, ByteArray.empty, 0⟩ : DSlot)), box B2 [Vi re] 23, box B1 [rv] 22]) (H' := [outer W1 [e0], loopE l_ (recd rc .busy none), box B10 [Vi (Tab.place ((Tab.find tt key).1) (tt.length : Int) k)] 3, box B9 [.slice als ((ls.set ho.toNat (ls.getD ((Tab.place ((Tab.find tt key).1) (tt.length : Int) k).toNat) default)).set ((Tab.place ((Tab.find tt key).1) (tt.length : Int) k).toNat) (⟨false, ByteArray.empty, 0⟩ : DSlot)).length cls] 22, own tSlot Sls als cls ((ls.set ho.toNat (ls.getD ((Tab.place ((Tab.find tt key).1) (tt.length : Int) k).toNat) default)).set ((Tab.place ((Tab.find tt key).1) (tt.length : Int) k).toNat) (⟨false, ByteArray.empty, 0⟩ : DSlot)), box B2 [Vi re] 23, box B1 [rv] 22]) (Sub.nil _) (by simp only [List.length_set, List.length_reverse]) ?_
      refine q_block_normal (q_block_normal ?_)
      refine q_next ((Tab.place ((Tab.find tt key).1) (tt.length : Int) k), re, (rv), ((ls.set ho.toNat (ls.getD ((Tab.place ((Tab.find tt key).1) (tt.length : Int) k).toNat) default)).set ((Tab.place ((Tab.find tt key).1) (tt.length : Int) k).toNat) (⟨false, ByteArray.empty, 0⟩ : DSlot)), als, cls, Sls) ?_ (fun w hw => hw.pick (H' := [outer W1 [e0], loopE l_ (recd rc .busy none), box B10 [Vi (Tab.place ((Tab.find tt key).1) (tt.length : Int) k)] 3, box B9 [.slice als ((ls.set ho.toNat (ls.getD ((Tab.place ((Tab.find tt key).1) (tt.length : Int) k).toNat) default)).set ((Tab.place ((Tab.find tt key).1) (tt.length : Int) k).toNat) (⟨false, ByteArray.empty, 0⟩ : DSlot)).length cls] 22, own tSlot Sls als cls ((ls.set ho.toNat (ls.getD ((Tab.place ((Tab.find tt key).1) (tt.length : Int) k).toNat) default)).set ((Tab.place ((Tab.find tt key).1) (tt.length : Int) k).toNat) (⟨false, ByteArray.empty, 0⟩ : DSlot)), box B2 [Vi re] 23, box B1 [rv] 22]) [0, 1, 2, 3, 4, 5, 6] (by decide) rfl)
      first | exact hI.same (by omega) heq | exact hI.move hpb (by omega) heq hu hmv | exact hI.keep (by omega) heq hu hmv
     ·simp only [decide_eq_false_iff_not, Int.not_le] at hc16
      have hmv := hc16
      refine c_skip ?_
      refine q_block_normal (q_block_normal ?_)
      refine q_next (ho, re, (rv), ls, als, cls, Sls) ?_ (fun w hw => hw.pick (H' := [outer W1 [e0], loopE l_ (recd rc .busy none), box B10 [Vi ho] 3, box B9 [.slice als ls.length cls] 22, own tSlot Sls als cls ls, box B2 [Vi re] 23, box B1 [rv] 22]) [0, 1, 2, 3, 4, 5, 6] (by decide) rfl)
      first | exact hI.same (by omega) heq | exact hI.move hpb (by omega) heq hu hmv | exact hI.keep (by omega) heq hu hmv
  ·rintro D ⟨ho, re, rv, ls, als, cls, Sls⟩ hI
   show SQ _ 89 w0 _ _ _ [defE D, box B10 [Vi ho] 3, box B9 [.slice als ls.length cls] 22, own tSlot Sls als cls ls, box B2 [Vi re] 23, box B1 [rv] 22, box B12 [Vi (tt.length : Int)] 3, box B13 [Vi ((Tab.find tt key).1)] 3, box B11 [Vi (tt.length : Int)] 3, base w0]
   refine q_block_normal (q_then ?_)
   refine c_seq (c_region ?_)
   refine o_p (p_load (i := 2) (v := .slice als ls.length cls) rfl rfl sh22 rfl) ?_
   refine o_store (i := 5) (v := .slice als ls.length cls) (cs' := [.slice als ls.length cls]) rfl rfl rfl sz22 rfl rfl rfl ?_
   refine o_store (i := 4) (v := Vi 0) (cs' := [Vi 0]) rfl rfl rfl sz23 rfl rfl rfl ?_
   refine o_nil (q_then (c_ret ?_))
   refine q_marks (i := 0) rfl ?_
   show SQ _ 89 w0 _ _ _ [box B10 [Vi ho] 3, box B9 [.slice als ls.length cls] 22, own tSlot Sls als cls ls, box B2 [Vi 0] 23, box B1 [.slice als ls.length cls] 22, box B12 [Vi (tt.length : Int)] 3, box B13 [Vi ((Tab.find tt key).1)] 3, box B11 [Vi (tt.length : Int)] 3, base w0]
   refine q_marks0 ?_
   have hr0 : (ls : List DSlot) = (Tab.delR tt key) := by
    first | exact (Tab.del_bad (by assumption)).symm | exact (Tab.del_ok hke (hI.done (by omega))).symm | exact (Tab.del_ok hke hI.2).symm | exact hI.1.trans hke.symm | exact hke.symm | rfl
   have hr1 : (0 : Int) = (Tab.keyErr tt key) := by
    first | exact (Tab.del_bad (by assumption)).symm | exact (Tab.del_ok hke (hI.done (by omega))).symm | exact (Tab.del_ok hke hI.2).symm | exact hI.1.trans hke.symm | exact hke.symm | rfl
   refine q_endM (p := (als, cls)) Sls (rt2 rfl (r_cell1 (i := 4) rfl rfl sh22) (r_cell1 (i := 3) rfl rfl sh23)) (i := 8) rfl ?_ ?_ ?_
   ·exact (by have hcc := congr (congrArg (fun (y0 : List DSlot) (y1 : Int) => (.tuple #[.slice als y0.length cls, .int .i64 y1] : Value)) hr0) hr1; exact hcc)
   ·exact fun w hw => hw.above (i := 8) (j := 2) (by decide) rfl rfl
   ·intro w hw; exact Eq.mp (congrArg (fun y => SlO tSlot _ w als cls y) hr0) ((hw.at (i := 2) rfl).here)
  ·rintro D c ⟨ho, re, rv, ls, als, cls, Sls⟩ hx
   rcases hx with ⟨rfl, hI⟩
   ·obtain ⟨hrv, hI⟩ := hI
    subst hrv
    show SC _ _ Try.prog 89 w0 _ _ _ [defE D, box B10 [Vi ho] 3, box B9 [.slice als ls.length cls] 22, own tSlot Sls als cls ls, box B2 [Vi re] 23, box B1 [.slice als ls.length cls] 22, box B12 [Vi (tt.length : Int)] 3, box B13 [Vi ((Tab.find tt key).1)] 3, box B11 [Vi (tt.length : Int)] 3, base w0]
    refine c_ret ?_
    refine q_block_ret (q_then_ret ?_)
    refine q_marks (i := 0) rfl ?_
    show SQ _ 89 w0 _ _ _ [box B10 [Vi ho] 3, box B9 [.slice als ls.length cls] 22, own tSlot Sls als cls ls, box B2 [Vi re] 23, box B1 [.slice als ls.length cls] 22, box B12 [Vi (tt.length : Int)] 3, box B13 [Vi ((Tab.find tt key).1)] 3, box B11 [Vi (tt.length : Int)] 3, base w0]
    refine q_marks0 ?_
    have hr0 : (ls : List DSlot) = (Tab.delR tt key) := by
     first | exact (Tab.del_bad (by assumption)).symm | exact (Tab.del_ok hke (hI.done (by omega))).symm | exact (Tab.del_ok hke hI.2).symm | exact hI.1.trans hke.symm | exact hke.symm | rfl
    have hr1 : (re : Int) = (Tab.keyErr tt key) := by
     first | exact (Tab.del_bad (by assumption)).symm | exact (Tab.del_ok hke (hI.done (by omega))).symm | exact (Tab.del_ok hke hI.2).symm | exact hI.1.trans hke.symm | exact hke.symm | rfl
    refine q_endM (p := (als, cls)) Sls (rt2 rfl (r_cell1 (i := 4) rfl rfl sh22) (r_cell1 (i := 3) rfl rfl sh23)) (i := 8) rfl ?_ ?_ ?_
    ·exact (by have hcc := congr (congrArg (fun (y0 : List DSlot) (y1 : Int) => (.tuple #[.slice als y0.length cls, .int .i64 y1] : Value)) hr0) hr1; exact hcc)
    ·exact fun w hw => hw.above (i := 8) (j := 2) (by decide) rfl rfl
    ·intro w hw; exact Eq.mp (congrArg (fun y => SlO tSlot _ w als cls y) hr0) ((hw.at (i := 2) rfl).here)
end Go.Proofs.Ythecfjipaepcgaa

/- The walks, printed by a program from the translation and a specification. -/
namespace Go.Proofs.Ythecfjipaepcgaa
open Go.Sx Go.RowKit
set_option maxHeartbeats 8000000 in
set_option maxRecDepth 100000 in
theorem tresize_ok (tt : List DSlot) (att : Option Addr) (ctt : Nat) (slots : Int) : FnM Try.prog 18 [.slice att tt.length ctt, Vi slots] (fun w => Rd tSlot w att ctt tt) (Option Addr × Nat) (fun p => .tuple #[.slice p.1 (Tab.sizeR tt slots).length p.2, Vi (Tab.sizeErr tt slots)]) (fun p S w => SlO tSlot S w p.1 p.2 (Tab.sizeR tt slots)) := by
 refine fnM (nt := 42) (F0 := [(0, .slice att tt.length ctt), (1, Vi slots)]) Try.func18 rfl Try.ntmps18 rfl rfl (fun w0 hpre => ?_)
 have htt := hpre
 have hlhtt := htt.2.1
 refine c_seq (c_region ?_)
 refine o_as rfl rfl ?_
 refine o_as rfl rfl ?_
 refine o_nil (q_then (c_seq (c_seq (c_region ?_))))
 refine o_mv rfl rfl ?_
 refine o_call0 (v := Vi (Tab.check tt)) rfl (tcheck_ok tt att ctt) hf25 (fun w hw => (rd_base (i := 0) rfl htt) w hw) rfl ?_
 refine o_as rfl rfl ?_
 refine o_nil (q_then (c_seq (c_region ?_)))
 refine o_mv rfl rfl ?_
 refine o_p (p_ne rfl rfl) ?_
 refine o_nil (q_then ?_)
 refine c_cond rfl (fun hc1 => ?_) (fun hc1 => ?_)
 ·simp only [bne_iff_ne, ne_eq] at hc1
  refine c_seq (c_region ?_)
  refine o_mv rfl rfl ?_
  refine o_as rfl rfl ?_
  refine o_as rfl rfl ?_
  refine o_nil (q_then (c_ret ?_))
  refine q_then_ret ?_
  obtain ⟨c1, c2⟩ : _ ∧ _ := by first | exact Tab.z1 (t := tt) (n := slots) (by assumption) | exact Tab.z2 (t := tt) (n := slots) hck (by omega) | exact hI.bad hck (by omega) (by omega) ⟨by assumption, by simpa using hpt⟩ | exact hI.done hck (by omega) (by omega)
  have hr0 : ([] : List DSlot) = (Tab.sizeR tt slots) := by
   first | exact c1.symm | exact c2.symm
  have hr1 : ((Tab.check tt) : Int) = (Tab.sizeErr tt slots) := by
   first | exact c1.symm | exact c2.symm
  refine q_endM (p := (none, 0)) (fun _ => False) (rt2 rfl (r_tmp rfl) (r_tmp rfl)) (i := 0) rfl ?_ ?_ ?_
  ·exact (by have hcc := congr (congrArg (fun (y0 : List DSlot) (y1 : Int) => (.tuple #[.slice none y0.length 0, .int .i64 y1] : Value)) hr0) hr1; exact hcc)
  ·intro w hw b hb; exact hb.elim
  ·intro w hw; exact Eq.mp (congrArg (fun y => SlO tSlot _ w none 0 y) hr0) (SlO.nil tSlot w)
 ·simp only [bne_eq_false_iff_eq] at hc1
  have hck := hc1
  have hln := Tab.ck_len hc1
  refine c_skip (q_then (c_seq (c_seq (c_region ?_))))
  refine o_mv rfl rfl ?_
  refine o_p (p_lt rfl rfl) ?_
  refine o_mv rfl rfl ?_
  refine o_or (p := 20) 3 (decide (64 < slots)) ?_ ?_ ?_
  ·intro hb2 hk
   simp only [decide_eq_false_iff_not, Int.not_lt] at hb2
   refine o_unguard 17 rfl rfl ?_
   refine o_mv rfl rfl ?_
   refine o_unguard 17 rfl rfl ?_
   refine o_p (p_gt rfl rfl) ?_
   refine o_pf rfl rfl rfl ?_
   exact o_sub (sr (Sub.skip rfl (Sub.skip rfl (Sub.skip rfl (Sub.skip rfl (Sub.refl _)))))) hk
  ·intro hb2 hk
   refine o_guard_no rfl 17 rfl rfl rfl rfl rfl ?_
   refine o_guard_no rfl 17 rfl rfl rfl rfl rfl ?_
   refine o_pt rfl rfl rfl ?_
   exact o_sub (sr (Sub.skip rfl (Sub.skip rfl (Sub.skip rfl (Sub.skip rfl (Sub.refl _)))))) hk
  refine o_nil (q_then ?_)
  refine c_cond rfl (fun hc3 => ?_) (fun hc3 => ?_)
  ·simp only [Bool.or_eq_true, decide_eq_true_eq] at hc3
   refine c_seq (c_region ?_)
   refine o_as rfl rfl ?_
   refine o_as rfl rfl ?_
   refine o_nil (q_then (c_ret ?_))
   refine q_then_ret ?_
   obtain ⟨c1, c2⟩ : _ ∧ _ := by first | exact Tab.z1 (t := tt) (n := slots) (by assumption) | exact Tab.z2 (t := tt) (n := slots) hck (by omega) | exact hI.bad hck (by omega) (by omega) ⟨by assumption, by simpa using hpt⟩ | exact hI.done hck (by omega) (by omega)
   have hr0 : ([] : List DSlot) = (Tab.sizeR tt slots) := by
    first | exact c1.symm | exact c2.symm
   have hr1 : (3 : Int) = (Tab.sizeErr tt slots) := by
    first | exact c1.symm | exact c2.symm
   refine q_endM (p := (none, 0)) (fun _ => False) (rt2 rfl (r_tmp rfl) (r_tmp rfl)) (i := 0) rfl ?_ ?_ ?_
   ·exact (by have hcc := congr (congrArg (fun (y0 : List DSlot) (y1 : Int) => (.tuple #[.slice none y0.length 0, .int .i64 y1] : Value)) hr0) hr1; exact hcc)
   ·intro w hw b hb; exact hb.elim
   ·intro w hw; exact Eq.mp (congrArg (fun y => SlO tSlot _ w none 0 y) hr0) (SlO.nil tSlot w)
  ·simp only [Bool.or_eq_false_iff, decide_eq_false_iff_not, Int.not_lt] at hc3
   refine c_skip (q_then (c_seq (c_region ?_)))
   refine o_mv rfl rfl ?_
   refine o_makeSlice (T := tSlot) (m := slots) (z := (⟨false, ByteArray.empty, 0⟩ : DSlot)) rfl rfl Try.underlying22 el33 ze33 rfl (by decide) (by omega) (by omega) rfl (fun S5 a4 => ?_)
   refine o_as rfl rfl ?_
   refine o_nil (q_then (c_seq (c_seq (c_region ?_))))
   refine o_mv rfl rfl ?_
   refine o_p (p_len_slice rfl rfl Try.underlying22) ?_
   refine o_mv rfl rfl ?_
   refine o_nil (q_then (c_block ?_))
   refine c_loop (St := Nat × List DSlot)
    (fun ⟨k, ls⟩ => [(7, .slice a4 ls.length slots.toNat), (23, .slice att tt.length ctt), (24, Vi (tt.length : Int)), (25, Vi (k : Int))])
    (fun ⟨k, ls⟩ => [own tSlot S5 a4 slots.toNat ls, base w0])
    (fun ⟨k, ls⟩ => Tab.ZI tt slots ls k)
    (fun ⟨k, ls⟩ => tt.length - k)
    (0, (List.replicate slots.toNat (⟨false, ByteArray.empty, 0⟩ : DSlot))) ?_ (sr (sr (sr (sr (Sub.nil _))))) (fun _ hw => hw) ?_
   ·exact Tab.ZI.start tt slots
   rintro ⟨k, ls⟩ hI K hK7
   have hll := hI.len
   have hle := hI.le
   show SC _ _ Try.prog 42 w0 _ _ [(7, .slice a4 ls.length slots.toNat), (23, .slice att tt.length ctt), (24, Vi (tt.length : Int)), (25, Vi (k : Int))] [own tSlot S5 a4 slots.toNat ls, base w0]
   refine c_seq (c_region ?_)
   refine o_p (p_lt rfl rfl) ?_
   refine o_nil (q_then (c_seq ?_))
   refine c_cond rfl (fun hc8 => ?_) (fun hc8 => ?_)
   ·simp only [decide_eq_true_eq] at hc8
    have hsk := Tab.key_of hck (show k < tt.length by omega)
    refine c_skip (q_then (c_seq (c_block (c_seq (c_region ?_)))))
    refine o_p (p_indexAddr (L := tt) (T := tSlot) (i := (k : Int)) rfl rfl (rd_base (i := 1) rfl htt) Try.underlying22 sz33 (by omega) (by omega)) ?_
    refine o_p (p_loadEn (i := k) (T := tSlot) (L := tt) (vs := [.bool ((tt[k]).used), .string ((tt[k]).key), Vi ((tt[k]).value)]) rfl (rd_base (i := 1) rfl htt) (by first | assumption | omega) sh33 rfl) ?_
    refine o_alloc ze33 rfl (fun B9 => ?_)
    refine o_storeN (i := 0) (vs := [.bool ((tt[k]).used), .string ((tt[k]).key), Vi ((tt[k]).value)]) (cs' := [.bool ((tt[k]).used), .string ((tt[k]).key), Vi ((tt[k]).value)]) rfl rfl rfl sz33 rfl rfl rfl rfl ?_
    refine o_nil (q_then (c_seq (c_region ?_)))
    refine o_p (p_fieldAddr (j' := 0) rfl fo33_0 rfl) ?_
    refine o_p (p_load (i := 0) (v := .bool ((tt[k]).used)) rfl rfl sh4 rfl) ?_
    refine o_mv rfl rfl ?_
    rcases Bool.eq_false_or_eq_true ((tt[k]).used) with hb10 | hb10
    ·rw [hb10]
     refine o_unguard 31 rfl rfl ?_
     refine o_mv rfl rfl ?_
     refine o_unguard 31 rfl rfl ?_
     refine o_p (p_fieldAddr (j' := 1) rfl fo33_1 rfl) ?_
     refine o_unguard 31 rfl rfl ?_
     refine o_p (p_load (i := 0) (v := .string ((tt[k]).key)) rfl rfl sh9 rfl) ?_
     refine o_unguard 31 rfl rfl ?_
     refine o_p (p_fieldAddr (j' := 2) rfl fo33_2 rfl) ?_
     refine o_unguard 31 rfl rfl ?_
     refine o_p (p_load (i := 0) (v := Vi ((tt[k]).value)) rfl rfl sh3 rfl) ?_
     refine o_unguard 31 rfl rfl ?_
     refine o_pick (H' := [own tSlot S5 a4 slots.toNat ls, box B9 [.bool true, .string ((tt[k]).key), Vi ((tt[k]).value)] 33, base w0]) [1, 0, 2] (by decide) rfl ?_
     refine o_callX (pre := [own tSlot S5 a4 slots.toNat ls]) (R := [box B9 [.bool true, .string ((tt[k]).key), Vi ((tt[k]).value)] 33, base w0]) rfl (tput_ok ls a4 slots.toNat S5 ((tt[k]).key) ((tt[k]).value) (by first | assumption | omega)) hf58 rfl (fun _ _ => trivial) rfl ?_
     rintro ⟨⟩
     refine o_asH (H' := [own tSlot S5 a4 slots.toNat (Tab.put ls ((tt[k]).key) ((tt[k]).value)), box B9 [.bool true, .string ((tt[k]).key), Vi ((tt[k]).value)] 33, base w0]) rfl ?_
     refine o_cast (F' := [(7, .slice a4 (Tab.put ls ((tt[k]).key) ((tt[k]).value)).length slots.toNat), (23, .slice att tt.length ctt), (24, Vi (tt.length : Int)), (25, Vi (k : Int)), (31, .bool true), (32, .slice a4 (Tab.put ls ((tt[k]).key) ((tt[k]).value)).length slots.toNat), (33, .pointer (some ⟨B9, 1, none⟩)), (34, .string ((tt[k]).key)), (35, .pointer (some ⟨B9, 2, none⟩)), (36, Vi ((tt[k]).value)), (37, .bool (!decide (Tab.putAt ls ((tt[k]).key) < 0)))]) (H := [own tSlot S5 a4 slots.toNat (Tab.put ls ((tt[k]).key) ((tt[k]).value)), box B9 [.bool true, .string ((tt[k]).key), Vi ((tt[k]).value)] 33, base w0]) (H' := [own tSlot S5 a4 slots.toNat (Tab.put ls ((tt[k]).key) ((tt[k]).value)), box B9 [.bool true, .string ((tt[k]).key), Vi ((tt[k]).value)] 33, base w0]) (Sub.cons (by simp only [List.length_set, List.length_reverse, Tab.put_len]; rfl) (sr (sr (sr (sr (Sub.cons (by simp only [List.length_set, List.length_reverse, Tab.put_len]; rfl) (sr (sr (sr (sr (sr (Sub.nil _)))))))))))) (by rfl) ?_
     refine o_unguard 31 rfl rfl ?_
     refine o_p (p_not (b := (!decide (Tab.putAt ls ((tt[k]).key) < 0))) rfl) ?_
     refine o_pt rfl rfl rfl ?_
     refine o_nil (q_then ?_)
     refine c_cond rfl (fun hc11 => ?_) (fun hc11 => ?_)
     ·simp only [Bool.not_eq_true', Bool.not_eq_false', decide_eq_true_eq] at hc11
      have hpt := hc11
      refine c_seq (c_region ?_)
      refine o_as rfl rfl ?_
      refine o_as rfl rfl ?_
      refine o_nil (q_then (c_ret ?_))
      refine q_block_ret (q_then_ret (q_then_ret (q_block_ret (q_then_ret ?_))))
      obtain ⟨c1, c2⟩ : _ ∧ _ := by first | exact Tab.z1 (t := tt) (n := slots) (by assumption) | exact Tab.z2 (t := tt) (n := slots) hck (by omega) | exact hI.bad hck (by omega) (by omega) ⟨by assumption, by simpa using hpt⟩ | exact hI.done hck (by omega) (by omega)
      have hr0 : ([] : List DSlot) = (Tab.sizeR tt slots) := by
       first | exact c1.symm | exact c2.symm
      have hr1 : (8 : Int) = (Tab.sizeErr tt slots) := by
       first | exact c1.symm | exact c2.symm
      refine q_endM (p := (none, 0)) (fun _ => False) (rt2 rfl (r_tmp rfl) (r_tmp rfl)) (i := 2) rfl ?_ ?_ ?_
      ·exact (by have hcc := congr (congrArg (fun (y0 : List DSlot) (y1 : Int) => (.tuple #[.slice none y0.length 0, .int .i64 y1] : Value)) hr0) hr1; exact hcc)
      ·intro w hw b hb; exact hb.elim
      ·intro w hw; exact Eq.mp (congrArg (fun y => SlO tSlot _ w none 0 y) hr0) (SlO.nil tSlot w)
     ·simp only [Bool.not_eq_false', Bool.not_eq_true', decide_eq_false_iff_not, Int.not_lt] at hc11
      have hpt := hc11
      refine c_skip ?_
      refine q_block_normal (q_then ?_)
      refine c_region ?_
      refine o_p (p_addb rfl rfl (by omega)) ?_
      refine o_mv rfl rfl ?_
      refine o_nil ?_
      refine q_round hK7 (k + 1, (Tab.put ls ((tt[k]).key) ((tt[k]).value))) ?_ ?_ ?_ ?_
      ·clear hK7
       first | exact hI.add (by omega) ⟨by assumption, by simpa using hpt⟩ | exact hI.skip (by omega) (by assumption)
      ·(try dsimp only); omega
      ·exact sr (sr (sr (sr (Sub.nil _))))
      ·exact pk [0, 2]
    ·rw [hb10]
     have hpt := hb10
     refine o_guard_no rfl 31 rfl rfl rfl rfl rfl ?_
     refine o_guard_no rfl 31 rfl rfl rfl rfl rfl ?_
     refine o_guard_no rfl 31 rfl rfl rfl rfl rfl ?_
     refine o_guard_no rfl 31 rfl rfl rfl rfl rfl ?_
     refine o_guard_no rfl 31 rfl rfl rfl rfl rfl ?_
     refine o_guard_no rfl 31 rfl rfl rfl rfl rfl ?_
     refine o_guard_no rfl 31 rfl rfl rfl rfl rfl ?_
     refine o_pf rfl rfl rfl ?_
     refine o_nil (q_then ?_)
     refine c_false rfl ?_
     refine c_skip ?_
     refine q_block_normal (q_then ?_)
     refine c_region ?_
     refine o_p (p_addb rfl rfl (by omega)) ?_
     refine o_mv rfl rfl ?_
     refine o_nil ?_
     refine q_round hK7 (k + 1, ls) ?_ ?_ ?_ ?_
     ·clear hK7
      first | exact hI.add (by omega) ⟨by assumption, by simpa using hpt⟩ | exact hI.skip (by omega) (by assumption)
     ·(try dsimp only); omega
     ·exact sr (sr (sr (sr (Sub.nil _))))
     ·exact pk [1, 2]
   ·simp only [decide_eq_false_iff_not, Int.not_lt] at hc8
    refine c_exit ?_
    refine q_then_exit (q_then_exit (q_block_exit (q_then ?_)))
    refine c_seq (c_region ?_)
    refine o_mv rfl rfl ?_
    refine o_as rfl rfl ?_
    refine o_as rfl rfl ?_
    refine o_nil (q_then (c_ret ?_))
    obtain ⟨c1, c2⟩ : _ ∧ _ := by first | exact Tab.z1 (t := tt) (n := slots) (by assumption) | exact Tab.z2 (t := tt) (n := slots) hck (by omega) | exact hI.bad hck (by omega) (by omega) ⟨by assumption, by simpa using hpt⟩ | exact hI.done hck (by omega) (by omega)
    have hr0 : (ls : List DSlot) = (Tab.sizeR tt slots) := by
     first | exact c1.symm | exact c2.symm
    have hr1 : (0 : Int) = (Tab.sizeErr tt slots) := by
     first | exact c1.symm | exact c2.symm
    refine q_endM (p := (a4, slots.toNat)) S5 (rt2 rfl (r_tmp rfl) (r_tmp rfl)) (i := 1) rfl ?_ ?_ ?_
    ·exact (by have hcc := congr (congrArg (fun (y0 : List DSlot) (y1 : Int) => (.tuple #[.slice a4 y0.length slots.toNat, .int .i64 y1] : Value)) hr0) hr1; exact hcc)
    ·exact fun w hw => hw.above (i := 1) (j := 0) (by decide) rfl rfl
    ·intro w hw; exact Eq.mp (congrArg (fun y => SlO tSlot _ w a4 slots.toNat y) hr0) ((hw.at (i := 0) rfl).here)
end Go.Proofs.Ythecfjipaepcgaa
