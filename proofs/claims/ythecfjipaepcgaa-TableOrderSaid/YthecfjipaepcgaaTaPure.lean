/- Hash tables: the plain functions, and the loops of the program. -/
import Derived.Test.YthecfjipaepcgaaHaLaw2
import Derived.Test.YthecfjipaepcgaaExLaw
import Derived.Test.YthecfjipaepcgaaLbPure
import Derived.Test.YthecfjipaepcgaaSx28
namespace Go.Sx
structure DSlot where
  used : Bool
  key : ByteArray
  value : Int
deriving DecidableEq
instance : Inhabited DSlot := ⟨⟨false, ByteArray.empty, 0⟩⟩
def tSlot : Ty DSlot := ⟨3, fun c => [.bool c.used, .string c.key, .int .i64 c.value], fun _ => rfl⟩
namespace Tab
def none_ : DSlot := ⟨false, ByteArray.empty, 0⟩
def home (key : ByteArray) (n : Int) : Int := Hash.rawFold (Hash.mix (Hash.raw key)) n
def okVal (v : Int) : Bool := decide (-1099511627776 ≤ v) && decide (v ≤ 1099511627776)
def one (s : DSlot) : Int := if s.used = false ∧ s ≠ none_ then 1 else if 40 < (s.key.size : Int) ∨ okVal s.value = false then 3 else 0
/-- the places from one on, once round -/
def place (h n : Int) (i : Nat) : Int := (h + (i : Int)).tmod n
def slot (t : List DSlot) (h : Int) (i : Nat) : DSlot := t.getD (place h (t.length : Int) i).toNat default
def checkGo (pre : List ByteArray) : List DSlot → Int
  | [] => 0
  | s :: l => if one s ≠ 0 then one s else if s.used = false then checkGo pre l else if s.key ∈ pre then 6 else checkGo (pre ++ [s.key]) l
def keys (l : List DSlot) : List ByteArray := (l.filter (·.used)).map (·.key)
def reachGo (t : List DSlot) (h i : Int) : Nat → Nat → Bool
  | 0, _ => false
  | f + 1, k => if place h (t.length : Int) k = i then true else if (slot t h k).used = false then false else reachGo t h i f (k + 1)
def reached (t : List DSlot) (i : Int) : Bool := reachGo t (home (t.getD i.toNat default).key (t.length : Int)) i t.length 0
def allGo (t : List DSlot) : Nat → Nat → Int
  | 0, _ => 0
  | f + 1, k => if (t.getD k default).used = true ∧ reached t (k : Int) = false then 4 else allGo t f (k + 1)
def check (t : List DSlot) : Int := if t.length = 0 then 1 else if 64 < (t.length : Int) then 2 else if checkGo [] t ≠ 0 then checkGo [] t else allGo t t.length 0
def findGo (t : List DSlot) (key : ByteArray) (h : Int) : Nat → Nat → Int × Int
  | 0, _ => (-1, 0)
  | f + 1, k => if (slot t h k).used = false then (-1, 0) else if (slot t h k).key = key then (place h (t.length : Int) k, (k : Int) + 1) else findGo t key h f (k + 1)
def find (t : List DSlot) (key : ByteArray) : Int × Int := findGo t key (home key (t.length : Int)) t.length 0
def putGo (t : List DSlot) (key : ByteArray) (h : Int) : Nat → Nat → Int
  | 0, _ => -1
  | f + 1, k => if (slot t h k).used = false ∨ (slot t h k).key = key then place h (t.length : Int) k else putGo t key h f (k + 1)
def putAt (t : List DSlot) (key : ByteArray) : Int := putGo t key (home key (t.length : Int)) t.length 0
/-- a table of one's own, with a key -/
def put (t : List DSlot) (key : ByteArray) (v : Int) : List DSlot := if putAt t key < 0 then t else t.set (putAt t key).toNat ⟨true, key, v⟩
def keyErr (t : List DSlot) (key : ByteArray) : Int := if check t ≠ 0 then check t else if 40 < (key.size : Int) then 3 else if (find t key).1 < 0 then 5 else 0
def has (t : List DSlot) (key : ByteArray) : Int := if keyErr t key = 0 then (t.getD (find t key).1.toNat default).value else 0
def looked (t : List DSlot) (key : ByteArray) : Int := if keyErr t key = 0 then (find t key).2 else 0
def putErr (t : List DSlot) (key : ByteArray) (v : Int) : Int := if check t ≠ 0 then check t else if 40 < (key.size : Int) ∨ okVal v = false then 3 else if putAt t key < 0 then 8 else 0
def putR (t : List DSlot) (key : ByteArray) (v : Int) : List DSlot := if putErr t key v = 0 then put t key v else []
/-- closing a hole -/
def dropGo (n : Int) (first : Int) : Nat → Nat → List DSlot → Int → List DSlot
  | 0, _, out, _ => out
  | f + 1, k, out, hole =>
    if place first n k = hole then dropGo n first f (k + 1) out hole
    else if (out.getD (place first n k).toNat default).used = false then out
    else if (place first n k - hole + n).tmod n ≤ (place first n k - home (out.getD (place first n k).toNat default).key n + n).tmod n then
      dropGo n first f (k + 1) ((out.set hole.toNat (out.getD (place first n k).toNat default)).set (place first n k).toNat none_) (place first n k)
    else dropGo n first f (k + 1) out hole
def drop (t : List DSlot) (key : ByteArray) : List DSlot := dropGo (t.length : Int) (find t key).1 t.length 0 (t.set (find t key).1.toNat none_) (find t key).1
def delR (t : List DSlot) (key : ByteArray) : List DSlot := if keyErr t key = 0 then drop t key else []
/-- the slots of one table put into another; none: there is no room -/
def fill (out : List DSlot) : List DSlot → List DSlot × Bool
  | [] => (out, true)
  | s :: l => if s.used = true then (if putAt out s.key < 0 then (out, false) else fill (put out s.key s.value) l) else fill out l
def empty (n : Int) : List DSlot := List.replicate n.toNat none_
def sizeErr (t : List DSlot) (n : Int) : Int := if check t ≠ 0 then check t else if n < 1 ∨ 64 < n then 3 else if (fill (empty n) t).2 then 0 else 8
def sizeR (t : List DSlot) (n : Int) : List DSlot := if sizeErr t n = 0 then (fill (empty n) t).1 else []
theorem home_bd (key : ByteArray) {n : Int} (h : 1 ≤ n ∧ n ≤ 64) : 0 ≤ home key n ∧ home key n < n := by
  have e := Hash.rawFold_eq (Hash.mix (Hash.raw key)) n.toNat (by omega)
  rw [show ((n.toNat : Nat) : Int) = n by omega] at e
  unfold home; rw [e]
  have h1 : (Hash.mix (Hash.raw key)).toNat / 4294967296 < 4294967296 := by have := (Hash.mix (Hash.raw key)).toNat_lt; omega
  have h2 : (Hash.mix (Hash.raw key)).toNat / 4294967296 * n.toNat / 4294967296 < n.toNat := by
    rw [Nat.div_lt_iff_lt_mul (by decide), Nat.mul_comm n.toNat]
    exact Nat.mul_lt_mul_of_pos_right h1 (by omega)
  omega
theorem place_bd {h n : Int} (hn : 1 ≤ n) (h0 : 0 ≤ h) (i : Nat) : 0 ≤ place h n i ∧ place h n i < n := by
  unfold place
  rw [Int.tmod_eq_emod_of_nonneg (by omega)]
  exact ⟨Int.emod_nonneg _ (by omega), Int.emod_lt_of_pos _ (by omega)⟩
/-! ### the first loop of Check -/
structure CI (t : List DSlot) (k : Nat) : Prop where
  le : k ≤ t.length
  eq : checkGo (keys (t.take k)) (t.drop k) = checkGo [] t
theorem CI.start (t : List DSlot) : CI t 0 := ⟨Nat.zero_le _, rfl⟩
theorem keys_succ {t : List DSlot} {k : Nat} (h : k < t.length) : keys (t.take (k + 1)) = keys (t.take k) ++ if t[k].used = true then [t[k].key] else [] := by
  unfold keys; rw [List.take_succ_eq_append_getElem h, List.filter_append, List.map_append]
  congr 1
  by_cases e : t[k].used = true <;> simp [List.filter_cons, e]
theorem go_step {t : List DSlot} {k : Nat} (h : k < t.length) : checkGo (keys (t.take k)) (t.drop k) = if one t[k] ≠ 0 then one t[k] else if t[k].used = false then checkGo (keys (t.take (k + 1))) (t.drop (k + 1)) else if t[k].key ∈ keys (t.take k) then 6 else checkGo (keys (t.take (k + 1))) (t.drop (k + 1)) := by
  rw [List.drop_eq_getElem_cons h, checkGo, keys_succ h]
  split
  · rfl
  · by_cases e : t[k].used = false
    · rw [if_pos e, if_pos e, if_neg (by simp [e]), List.append_nil]
    · rw [if_neg e, if_neg e, if_pos (c := t[k].used = true) (by simpa using e)]
theorem CI.skip {t : List DSlot} {k : Nat} (h : CI t k) (hk : k < t.length) (ho : one t[k] = 0) (hu : t[k].used = false) : CI t (k + 1) := ⟨hk, by rw [← h.eq, go_step hk, if_neg (by simp [ho]), if_pos hu]⟩
theorem CI.next {t : List DSlot} {k : Nat} (h : CI t k) (hk : k < t.length) (ho : one t[k] = 0) (hu : t[k].used = true) (hn : t[k].key ∉ keys (t.take k)) : CI t (k + 1) := ⟨hk, by rw [← h.eq, go_step hk, if_neg (by simp [ho]), if_neg (by simp [hu]), if_neg hn]⟩
theorem CI.bad {t : List DSlot} {k : Nat} (h : CI t k) (hk : k < t.length) (ho : one t[k] ≠ 0) : one t[k] = checkGo [] t := by rw [← h.eq, go_step hk, if_pos ho]
theorem CI.twice {t : List DSlot} {k : Nat} (h : CI t k) (hk : k < t.length) (ho : one t[k] = 0) (hu : t[k].used = true) (ht : t[k].key ∈ keys (t.take k)) : 6 = checkGo [] t := by rw [← h.eq, go_step hk, if_neg (by simp [ho]), if_neg (by simp [hu]), if_pos ht]
theorem CI.done {t : List DSlot} {k : Nat} (h : CI t k) (hk : t.length ≤ k) : checkGo [] t = 0 := by rw [← h.eq, List.drop_of_length_le hk]; rfl
def Seen {ν : Type} (m : List (ByteArray × ν)) (t : List DSlot) (k : Nat) : Prop := ∀ j, (AL.get m j).isSome = true ↔ j ∈ keys (t.take k)
theorem Seen.start {ν : Type} (t : List DSlot) : Seen ([] : List (ByteArray × ν)) t 0 := fun j => by simp [AL.get, keys]
theorem Seen.next {ν : Type} {m : List (ByteArray × ν)} {t : List DSlot} {k : Nat} (h : Seen m t k) (hk : k < t.length) (hu : t[k].used = true) (x : ν) : Seen (AL.set m t[k].key x) t (k + 1) := fun j => by
  rw [AL.get_set, keys_succ hk, if_pos hu, List.mem_append]
  have hj := h j
  split
  · simp [*]
  · rw [hj]; simp [*]
theorem Seen.skip {ν : Type} {m : List (ByteArray × ν)} {t : List DSlot} {k : Nat} (h : Seen m t k) (hk : k < t.length) (hu : t[k].used = false) : Seen m t (k + 1) := fun j => by
  rw [keys_succ hk, if_neg (by simp [hu]), List.append_nil]; exact h j
theorem Seen.no {ν : Type} {m : List (ByteArray × ν)} {t : List DSlot} {k : Nat} (h : Seen m t k) {j : ByteArray} (hn : (AL.get m j).isSome = false) : j ∉ keys (t.take k) := fun hm => by
  rw [(h j).2 hm] at hn; cases hn
theorem ck1 {t : List DSlot} (h : (t.length : Int) = 0) : 1 = check t := by unfold check; rw [if_pos (by omega)]
theorem ck2 {t : List DSlot} (h : 64 < (t.length : Int)) : 2 = check t := by unfold check; rw [if_neg (by omega), if_pos h]
theorem ck3 {t : List DSlot} (h : ¬ (t.length : Int) = 0) (h2 : (t.length : Int) ≤ 64) {e : Int} (he : e = checkGo [] t) (hb : e ≠ 0) : e = check t := by unfold check; rw [if_neg (by omega), if_neg (by omega), ← he, if_pos hb]
theorem ck4 {t : List DSlot} (h : ¬ (t.length : Int) = 0) (h2 : (t.length : Int) ≤ 64) (hz : checkGo [] t = 0) {e : Int} (he : e = allGo t t.length 0) : e = check t := by unfold check; rw [if_neg (by omega), if_neg (by omega), hz, if_neg (by simp)]; exact he
/-! ### runs down to a place -/
structure AI (t : List DSlot) (k : Nat) : Prop where
  le : k ≤ t.length
  eq : allGo t (t.length - k) k = allGo t t.length 0
theorem AI.start (t : List DSlot) : AI t 0 := ⟨Nat.zero_le _, rfl⟩
theorem all_step {t : List DSlot} {k : Nat} (h : k < t.length) : allGo t (t.length - k) k = if (t.getD k default).used = true ∧ reached t (k : Int) = false then 4 else allGo t (t.length - (k + 1)) (k + 1) := by
  rw [show t.length - k = (t.length - (k + 1)) + 1 by omega, allGo]
theorem AI.next {t : List DSlot} {k : Nat} (h : AI t k) (hk : k < t.length) (hn : ¬ ((t.getD k default).used = true ∧ reached t (k : Int) = false)) : AI t (k + 1) := ⟨hk, by rw [← h.eq, all_step hk, if_neg hn]⟩
theorem AI.bad {t : List DSlot} {k : Nat} (h : AI t k) (hk : k < t.length) (hn : (t.getD k default).used = true ∧ reached t (k : Int) = false) : 4 = allGo t t.length 0 := by rw [← h.eq, all_step hk, if_pos hn]
theorem AI.done {t : List DSlot} {k : Nat} (h : AI t k) (hk : t.length ≤ k) : 0 = allGo t t.length 0 := by rw [← h.eq, show t.length - k = 0 by omega]; rfl
structure RI (t : List DSlot) (i : Int) (k : Nat) : Prop where
  le : k ≤ t.length
  eq : reachGo t (home (t.getD i.toNat default).key (t.length : Int)) i (t.length - k) k = reached t i
theorem RI.start (t : List DSlot) (i : Int) : RI t i 0 := ⟨Nat.zero_le _, rfl⟩
theorem reach_step {t : List DSlot} {h i : Int} {k : Nat} (hk : k < t.length) : reachGo t h i (t.length - k) k = if place h (t.length : Int) k = i then true else if (slot t h k).used = false then false else reachGo t h i (t.length - (k + 1)) (k + 1) := by
  rw [show t.length - k = (t.length - (k + 1)) + 1 by omega, reachGo]
theorem RI.yes {t : List DSlot} {i : Int} {k : Nat} (h : RI t i k) (hk : k < t.length) (he : place (home (t.getD i.toNat default).key (t.length : Int)) (t.length : Int) k = i) : true = reached t i := by rw [← h.eq, reach_step hk, if_pos he]
theorem RI.no {t : List DSlot} {i : Int} {k : Nat} (h : RI t i k) (hk : k < t.length) (he : ¬ place (home (t.getD i.toNat default).key (t.length : Int)) (t.length : Int) k = i) (hu : (slot t (home (t.getD i.toNat default).key (t.length : Int)) k).used = false) : false = reached t i := by rw [← h.eq, reach_step hk, if_neg he, if_pos hu]
theorem RI.next {t : List DSlot} {i : Int} {k : Nat} (h : RI t i k) (hk : k < t.length) (he : ¬ place (home (t.getD i.toNat default).key (t.length : Int)) (t.length : Int) k = i) (hu : (slot t (home (t.getD i.toNat default).key (t.length : Int)) k).used = true) : RI t i (k + 1) := ⟨hk, by rw [← h.eq, reach_step hk, if_neg he, if_neg (by rw [hu]; decide)]⟩
theorem RI.done {t : List DSlot} {i : Int} {k : Nat} (h : RI t i k) (hk : t.length ≤ k) : false = reached t i := by rw [← h.eq, show t.length - k = 0 by omega]; rfl
structure FI (t : List DSlot) (key : ByteArray) (k : Nat) : Prop where
  le : k ≤ t.length
  eq : findGo t key (home key (t.length : Int)) (t.length - k) k = find t key
theorem FI.start (t : List DSlot) (key : ByteArray) : FI t key 0 := ⟨Nat.zero_le _, rfl⟩
theorem find_step {t : List DSlot} {key : ByteArray} {h : Int} {k : Nat} (hk : k < t.length) : findGo t key h (t.length - k) k = if (slot t h k).used = false then (-1, 0) else if (slot t h k).key = key then (place h (t.length : Int) k, (k : Int) + 1) else findGo t key h (t.length - (k + 1)) (k + 1) := by
  rw [show t.length - k = (t.length - (k + 1)) + 1 by omega, findGo]
theorem FI.none_ {t : List DSlot} {key : ByteArray} {k : Nat} (h : FI t key k) (hk : k < t.length) (hu : (slot t (home key (t.length : Int)) k).used = false) : (-1, 0) = find t key := by rw [← h.eq, find_step hk, if_pos hu]
theorem FI.here {t : List DSlot} {key : ByteArray} {k : Nat} (h : FI t key k) (hk : k < t.length) (hu : (slot t (home key (t.length : Int)) k).used = true) (he : (slot t (home key (t.length : Int)) k).key = key) : (place (home key (t.length : Int)) (t.length : Int) k, (k : Int) + 1) = find t key := by rw [← h.eq, find_step hk, if_neg (by simp [hu]), if_pos he]
theorem FI.next {t : List DSlot} {key : ByteArray} {k : Nat} (h : FI t key k) (hk : k < t.length) (hu : (slot t (home key (t.length : Int)) k).used = true) (he : ¬ (slot t (home key (t.length : Int)) k).key = key) : FI t key (k + 1) := ⟨hk, by rw [← h.eq, find_step hk, if_neg (by simp [hu]), if_neg he]⟩
theorem FI.done {t : List DSlot} {key : ByteArray} {k : Nat} (h : FI t key k) (hk : t.length ≤ k) : (-1, 0) = find t key := by rw [← h.eq, show t.length - k = 0 by omega]; rfl
structure PI (t : List DSlot) (key : ByteArray) (k : Nat) : Prop where
  le : k ≤ t.length
  eq : putGo t key (home key (t.length : Int)) (t.length - k) k = putAt t key
theorem PI.start (t : List DSlot) (key : ByteArray) : PI t key 0 := ⟨Nat.zero_le _, rfl⟩
theorem put_step {t : List DSlot} {key : ByteArray} {h : Int} {k : Nat} (hk : k < t.length) : putGo t key h (t.length - k) k = if (slot t h k).used = false ∨ (slot t h k).key = key then place h (t.length : Int) k else putGo t key h (t.length - (k + 1)) (k + 1) := by
  rw [show t.length - k = (t.length - (k + 1)) + 1 by omega, putGo]
theorem PI.here {t : List DSlot} {key : ByteArray} {k : Nat} (h : PI t key k) (hk : k < t.length) (hu : (slot t (home key (t.length : Int)) k).used = false ∨ (slot t (home key (t.length : Int)) k).key = key) : place (home key (t.length : Int)) (t.length : Int) k = putAt t key := by rw [← h.eq, put_step hk, if_pos hu]
theorem PI.next {t : List DSlot} {key : ByteArray} {k : Nat} (h : PI t key k) (hk : k < t.length) (hu : ¬ ((slot t (home key (t.length : Int)) k).used = false ∨ (slot t (home key (t.length : Int)) k).key = key)) : PI t key (k + 1) := ⟨hk, by rw [← h.eq, put_step hk, if_neg hu]⟩
theorem PI.done {t : List DSlot} {key : ByteArray} {k : Nat} (h : PI t key k) (hk : t.length ≤ k) : -1 = putAt t key := by rw [← h.eq, show t.length - k = 0 by omega]; rfl
end Tab
end Go.Sx
