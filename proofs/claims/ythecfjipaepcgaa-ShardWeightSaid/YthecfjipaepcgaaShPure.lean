/- Shards: the plain functions. -/
import Derived.Test.YthecfjipaepcgaaStLaw
import Derived.Test.YthecfjipaepcgaaHaLaw
import Derived.Test.YthecfjipaepcgaaSx27
namespace Go.Sx
structure DShard where
  name : ByteArray
  weight : Int
deriving DecidableEq
instance : Inhabited DShard := ⟨⟨ByteArray.empty, 0⟩⟩
def tShard : Ty DShard := ⟨2, fun c => [.string c.name, .int .i64 c.weight], fun _ => rfl⟩
def cmpU (x y : UInt64) : Int := if x < y then -1 else if y < x then 1 else 0
theorem cmpU_neg {x y : UInt64} : cmpU x y < 0 ↔ x < y := by unfold cmpU; split; simp [*]; split <;> simp <;> exact UInt64.not_lt.1 (by assumption)
theorem u64_irr (x : UInt64) : (x != x) = false := by simp
namespace Shd
def one (s : DShard) : Int := if s.weight < 1 ∨ 8 < s.weight then 3 else if 40 < (s.name.size : Int) then 2 else 0
theorem one1 {s : DShard} (h : s.weight < 1 ∨ 8 < s.weight) : 3 = one s := by unfold one; rw [if_pos h]
theorem one2 {s : DShard} (h : 1 ≤ s.weight ∧ s.weight ≤ 8) (h2 : 40 < (s.name.size : Int)) : 2 = one s := by unfold one; rw [if_neg (by omega), if_pos h2]
theorem one3 {s : DShard} (h : 1 ≤ s.weight ∧ s.weight ≤ 8) (h2 : (s.name.size : Int) ≤ 40) : 0 = one s := by unfold one; rw [if_neg (by omega), if_neg (by omega)]
theorem one_ok {s : DShard} : one s = 0 ↔ (1 ≤ s.weight ∧ s.weight ≤ 8) ∧ s.name.size ≤ 40 := by
  unfold one; split
  · constructor
    · intro h; cases h
    · rintro ⟨h, _⟩; omega
  · split
    · constructor
      · intro h; cases h
      · rintro ⟨_, h⟩; omega
    · refine ⟨fun _ => ⟨by omega, by omega⟩, fun _ => rfl⟩
def checkGo (pre : List ByteArray) : List DShard → Int
  | [] => 0
  | s :: l => if one s ≠ 0 then one s else if s.name ∈ pre then 6 else checkGo (pre ++ [s.name]) l
def check (l : List DShard) : Int := if 20 < (l.length : Int) then 2 else checkGo [] l
def names (l : List DShard) : List ByteArray := l.map (·.name)
structure CI (l : List DShard) (i : Nat) : Prop where
  le : i ≤ l.length
  eq : checkGo (names (l.take i)) (l.drop i) = checkGo [] l
theorem CI.start (l : List DShard) : CI l 0 := ⟨Nat.zero_le _, rfl⟩
theorem go_step {l : List DShard} {i : Nat} (h : i < l.length) : checkGo (names (l.take i)) (l.drop i) = if one l[i] ≠ 0 then one l[i] else if l[i].name ∈ names (l.take i) then 6 else checkGo (names (l.take (i + 1))) (l.drop (i + 1)) := by
  have e : names (l.take (i + 1)) = names (l.take i) ++ [l[i].name] := by unfold names; rw [List.take_succ_eq_append_getElem h, List.map_append]; rfl
  rw [List.drop_eq_getElem_cons h, checkGo, e]
theorem CI.bad {l : List DShard} {i : Nat} (h : CI l i) (hi : i < l.length) (hn : (l.length : Int) ≤ 20) (hb : one l[i] ≠ 0) : one l[i] = check l := by
  rw [check, if_neg (by omega), ← h.eq, go_step hi, if_pos hb]
theorem CI.twice {l : List DShard} {i : Nat} (h : CI l i) (hi : i < l.length) (hn : (l.length : Int) ≤ 20) (hb : one l[i] = 0) (ht : l[i].name ∈ names (l.take i)) : 6 = check l := by
  rw [check, if_neg (by omega), ← h.eq, go_step hi, if_neg (by simp [hb]), if_pos ht]
theorem CI.next {l : List DShard} {i : Nat} (h : CI l i) (hi : i < l.length) (hb : one l[i] = 0) (ht : l[i].name ∉ names (l.take i)) : CI l (i + 1) :=
  ⟨by omega, by rw [← h.eq, go_step hi, if_neg (by simp [hb]), if_neg ht]⟩
theorem CI.done {l : List DShard} {i : Nat} (h : CI l i) (hn : (l.length : Int) ≤ 20) (hi : l.length ≤ i) : 0 = check l := by
  rw [check, if_neg (by omega), ← h.eq, List.drop_of_length_le hi]; rfl
theorem many {l : List DShard} (h : 20 < (l.length : Int)) : 2 = check l := by rw [check, if_pos h]
/-- the map of what was seen -/
def Seen {ν : Type} (m : List (ByteArray × ν)) (l : List DShard) (k : Nat) : Prop := ∀ j, (AL.get m j).isSome = true ↔ j ∈ names (l.take k)
theorem Seen.start {ν : Type} (l : List DShard) : Seen ([] : List (ByteArray × ν)) l 0 := fun j => by simp [AL.get, names]
theorem Seen.next {ν : Type} {m : List (ByteArray × ν)} {l : List DShard} {k : Nat} (h : Seen m l k) (hk : k < l.length) (x : ν) : Seen (AL.set m l[k].name x) l (k + 1) := fun j => by
  rw [AL.get_set, List.take_succ_eq_append_getElem hk, names, List.map_append, List.mem_append]
  have hj := h j
  split
  · simp [*]
  · rw [hj]; simp [names, *]
theorem Seen.no {ν : Type} {m : List (ByteArray × ν)} {l : List DShard} {k : Nat} (h : Seen m l k) {j : ByteArray} (hn : (AL.get m j).isSome = false) : j ∉ names (l.take k) := fun hm => by
  have := (h j).2 hm
  rw [hn] at this; cases this
/-- shards that are right: each right, each name once, at most twenty -/
structure Ok (l : List DShard) : Prop where
  len : l.length ≤ 20
  one : ∀ s ∈ l, one s = 0
  nodup : (names l).Nodup
theorem go_ok : ∀ {l : List DShard} {pre : List ByteArray}, checkGo pre l = 0 ↔ (∀ s ∈ l, Shd.one s = 0) ∧ (∀ k ∈ names l, k ∉ pre) ∧ (names l).Nodup
  | [], pre => by simp [checkGo, names]
  | s :: l, pre => by
    rw [checkGo]
    by_cases h1 : Shd.one s = 0
    · rw [if_neg (by simp [h1])]
      by_cases h2 : s.name ∈ pre
      · rw [if_pos h2]; simp [names, h2]
      · rw [if_neg h2, go_ok]
        simp only [names, List.map_cons, List.mem_cons, List.mem_append, List.nodup_cons, List.mem_nil_iff, or_false]
        constructor
        · rintro ⟨a, b, c⟩
          refine ⟨by rintro j (rfl | hj); exact h1; exact a j hj, by rintro j (rfl | hj); exact h2; exact fun hp => b j hj (.inl hp), fun hk => b s.name hk (.inr rfl), c⟩
        · rintro ⟨a, b, c, d⟩
          refine ⟨fun j hj => a j (.inr hj), fun j hj hp => ?_, d⟩
          rcases hp with hp | hp
          · exact b j (.inr hj) hp
          · exact c (hp ▸ hj)
    · rw [if_pos h1]; simp [h1]
theorem check_ok {l : List DShard} : check l = 0 ↔ Ok l := by
  unfold check
  split
  · constructor
    · intro h; cases h
    · intro h; have := h.len; omega
  · rw [go_ok]
    constructor
    · rintro ⟨a, _, c⟩; exact ⟨by omega, a, c⟩
    · intro h; exact ⟨h.one, fun k _ hk => (by cases hk), h.nodup⟩
theorem Ok.at {l : List DShard} (h : Ok l) {i : Nat} (hi : i < l.length) : (1 ≤ l[i].weight ∧ l[i].weight ≤ 8) ∧ l[i].name.size ≤ 40 := one_ok.1 (h.one _ (List.getElem_mem hi))
theorem Ok.getd {l : List DShard} (h : Ok l) {i : Nat} (hi : i < l.length) : (1 ≤ (l.getD i default).weight ∧ (l.getD i default).weight ≤ 8) ∧ (l.getD i default).name.size ≤ 40 := by rw [← getd_at hi default]; exact h.at hi
/-! ### scores -/
def scoreTo (s : DShard) (key : UInt64) : Nat → UInt64
  | 0 => 0
  | k + 1 => mxU (scoreTo s key k) (Hash.mix (key ^^^ Hash.mix (Hash.raw s.name ^^^ toU (k : Int))))
def score (s : DShard) (key : UInt64) : UInt64 := scoreTo s key s.weight.toNat
theorem score_end {s : DShard} {key best : UInt64} {k : Nat} (h : best = scoreTo s key k) (h1 : s.weight ≤ k) (h2 : k ≤ s.weight.toNat) : best = score s key := by
  rw [h, score, show k = s.weight.toNat by omega]
def scoreErr (s : DShard) (key : ByteArray) : Int := if one s ≠ 0 then one s else if 40 < (key.size : Int) then 2 else 0
def scoreR (s : DShard) (key : ByteArray) : UInt64 := if scoreErr s key = 0 then score s (Hash.raw key) else 0
theorem sc_cases (s : DShard) (key : ByteArray) : (one s ≠ 0 ∧ scoreErr s key = one s ∧ scoreR s key = 0) ∨ (one s = 0 ∧ 40 < (key.size : Int) ∧ scoreErr s key = 2 ∧ scoreR s key = 0) ∨ (one s = 0 ∧ (key.size : Int) ≤ 40 ∧ scoreErr s key = 0 ∧ scoreR s key = score s (Hash.raw key)) := by
  by_cases h : one s = 0
  · by_cases h2 : 40 < (key.size : Int)
    · have e : scoreErr s key = 2 := by unfold scoreErr; rw [if_neg (by simp [h]), if_pos h2]
      exact .inr (.inl ⟨h, h2, e, by unfold scoreR; rw [e]; rfl⟩)
    · have e : scoreErr s key = 0 := by unfold scoreErr; rw [if_neg (by simp [h]), if_neg h2]
      exact .inr (.inr ⟨h, by omega, e, by unfold scoreR; rw [if_pos e]⟩)
  · have e : scoreErr s key = one s := by unfold scoreErr; rw [if_pos h]
    exact .inl ⟨h, e, by unfold scoreR; rw [if_neg (by rw [e]; exact h)]⟩
def cmp (l : List DShard) (n : UInt64) (a b : Int) : Int := cmpU (score (l.getD b.toNat default) n) (score (l.getD a.toNat default) n)
def ranked (l : List DShard) (key : ByteArray) : List Int := St.isort (cmp l (Hash.raw key)) ((List.range l.length).map Int.ofNat)
def ownErr (l : List DShard) (key : ByteArray) : Int := if check l ≠ 0 then check l else if 40 < (key.size : Int) then 2 else if (l.length : Int) = 0 then 5 else 0
theorem oe1 {l : List DShard} (key : ByteArray) (h : check l ≠ 0) : check l = ownErr l key := by unfold ownErr; rw [if_pos h]
theorem oe2 {l : List DShard} {key : ByteArray} (h : check l = 0) (h2 : 40 < (key.size : Int)) : 2 = ownErr l key := by unfold ownErr; rw [if_neg (by simp [h]), if_pos h2]
theorem oe3 {l : List DShard} {key : ByteArray} (h : check l = 0) (h2 : (key.size : Int) ≤ 40) (h3 : (l.length : Int) = 0) : 5 = ownErr l key := by unfold ownErr; rw [if_neg (by simp [h]), if_neg (by omega), if_pos h3]
theorem oe4 {l : List DShard} {key : ByteArray} (h : check l = 0) (h2 : (key.size : Int) ≤ 40) (h3 : (l.length : Int) ≠ 0) : 0 = ownErr l key := by unfold ownErr; rw [if_neg (by simp [h]), if_neg (by omega), if_neg h3]
theorem own_ok {l : List DShard} {key : ByteArray} (h : ownErr l key = 0) : Ok l ∧ key.size ≤ 40 ∧ 0 < l.length := by
  unfold ownErr at h
  split at h
  · rename_i h1; exact absurd h h1
  · rename_i h1
    split at h
    · cases h
    · split at h
      · cases h
      · exact ⟨check_ok.1 (by simpa using h1), by omega, by omega⟩
def owner (l : List DShard) (key : ByteArray) : Int := if ownErr l key = 0 then (ranked l key).getD 0 default else 0
def ownsErr (l : List DShard) (key : ByteArray) (n : Int) : Int := if ownErr l key ≠ 0 then ownErr l key else if n < 1 ∨ (l.length : Int) < n then 3 else 0
def owners (l : List DShard) (key : ByteArray) (n : Int) : List Int := if ownsErr l key n = 0 then (ranked l key).take n.toNat else []
theorem ow_cases (l : List DShard) (key : ByteArray) (n : Int) : (ownErr l key ≠ 0 ∧ ownsErr l key n = ownErr l key ∧ owners l key n = []) ∨ (ownErr l key = 0 ∧ (n < 1 ∨ (l.length : Int) < n) ∧ ownsErr l key n = 3 ∧ owners l key n = []) ∨ (ownErr l key = 0 ∧ (1 ≤ n ∧ n ≤ (l.length : Int)) ∧ ownsErr l key n = 0 ∧ owners l key n = (ranked l key).take n.toNat) := by
  by_cases h : ownErr l key = 0
  · by_cases h2 : n < 1 ∨ (l.length : Int) < n
    · have e : ownsErr l key n = 3 := by unfold ownsErr; rw [if_neg (by simp [h]), if_pos h2]
      exact .inr (.inl ⟨h, h2, e, by unfold owners; rw [e]; rfl⟩)
    · have e : ownsErr l key n = 0 := by unfold ownsErr; rw [if_neg (by simp [h]), if_neg h2]
      exact .inr (.inr ⟨h, by omega, e, by unfold owners; rw [if_pos e]⟩)
  · have e : ownsErr l key n = ownErr l key := by unfold ownsErr; rw [if_pos h]
    exact .inl ⟨h, e, by unfold owners; rw [if_neg (by rw [e]; exact h)]⟩
theorem ranked_len (l : List DShard) (key : ByteArray) : (ranked l key).length = l.length := by rw [ranked, St.isort_len]; simp
/-! ### moves -/
def kerr (l m : List DShard) (key : ByteArray) : Int := if ownErr l key ≠ 0 then ownErr l key else ownErr m key
def firstErr (l m : List DShard) : List ByteArray → Int
  | [] => 0
  | k :: r => if kerr l m k ≠ 0 then kerr l m k else firstErr l m r
def movErr (l m : List DShard) (keys : List ByteArray) : Int := if 200 < (keys.length : Int) then 2 else firstErr l m keys
def differs (l m : List DShard) (key : ByteArray) : Bool := !decide ((l.getD (owner l key).toNat default).name = (m.getD (owner m key).toNat default).name)
def movTo (l m : List DShard) (keys : List ByteArray) (k : Nat) : List Int := ((List.range k).filter fun i => differs l m (keys.getD i default)).map Int.ofNat
def moved (l m : List DShard) (keys : List ByteArray) : List Int := if movErr l m keys = 0 then movTo l m keys keys.length else []
end Shd
end Go.Sx
