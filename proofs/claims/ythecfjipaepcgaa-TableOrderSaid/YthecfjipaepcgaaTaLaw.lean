/- Hash tables: the cases of the results. -/
import Derived.Test.YthecfjipaepcgaaTaPure
namespace Go.Sx.Tab
theorem slot_eq {s : DSlot} (h : s.used = false ∧ s.key = ByteArray.empty ∧ s.value = 0) : s = none_ := by cases s; simp only [none_]; simp_all
theorem one1 {s : DSlot} (h : s.used = false ∧ (¬ s.used = false ∨ ¬ s.key = ByteArray.empty ∨ ¬ s.value = 0)) : 1 = one s := by
  refine (if_pos (show s.used = false ∧ s ≠ none_ from ⟨h.1, fun e => ?_⟩)).symm
  rcases h.2 with q | q | q <;> exact q (by rw [e]; rfl)
theorem one_no {s : DSlot} (h : s.used = true ∨ s.used = false ∧ s.key = ByteArray.empty ∧ s.value = 0) : ¬ (s.used = false ∧ s ≠ none_) := by
  rintro ⟨a, b⟩; rcases h with h | h
  · rw [a] at h; cases h
  · exact b (slot_eq h)
theorem one2 {s : DSlot} (h : s.used = true ∨ s.used = false ∧ s.key = ByteArray.empty ∧ s.value = 0) (h2 : 40 < (s.key.size : Int) ∨ okVal s.value = false) : 3 = one s := by
  unfold one; rw [if_neg (one_no h), if_pos h2]
theorem one3 {s : DSlot} (h : s.used = true ∨ s.used = false ∧ s.key = ByteArray.empty ∧ s.value = 0) (h2 : (s.key.size : Int) ≤ 40 ∧ okVal s.value = true) : 0 = one s := by
  unfold one; rw [if_neg (one_no h), if_neg]
  rintro (a | a)
  · omega
  · rw [h2.2] at a; cases a
theorem getd_eq {t : List DSlot} {k : Nat} (h : k < t.length) : t.getD k default = t[k] := (getd_at h default).symm
theorem AI.next2 {t : List DSlot} {k : Nat} (h : AI t k) (hk : k < t.length) (hn : t[k].used = false ∨ reached t (k : Int) = true) : AI t (k + 1) := h.next hk (by rw [getd_eq hk]; rintro ⟨a, b⟩; rcases hn with q | q; rw [a] at q; cases q; rw [b] at q; cases q)
theorem AI.bad2 {t : List DSlot} {k : Nat} (h : AI t k) (hk : k < t.length) (hu : t[k].used = true ∧ reached t (k : Int) = false) : 4 = allGo t t.length 0 := h.bad hk (by rw [getd_eq hk]; exact hu)
theorem ck_len {t : List DSlot} (h : check t = 0) : 1 ≤ t.length ∧ t.length ≤ 64 := by
  unfold check at h
  split at h
  · cases h
  · split at h
    · cases h
    · omega
theorem g1 {t : List DSlot} {key : ByteArray} (h : check t ≠ 0) : has t key = 0 ∧ looked t key = 0 ∧ keyErr t key = check t := by
  have e : keyErr t key = check t := if_pos h
  have e2 : keyErr t key ≠ 0 := by rw [e]; exact h
  exact ⟨if_neg e2, if_neg e2, e⟩
theorem g2 {t : List DSlot} {key : ByteArray} (h : check t = 0) (h2 : 40 < (key.size : Int)) : has t key = 0 ∧ looked t key = 0 ∧ keyErr t key = 3 := by
  have e : keyErr t key = 3 := by unfold keyErr; rw [if_neg (by simp [h]), if_pos h2]
  have e2 : keyErr t key ≠ 0 := by rw [e]; decide
  exact ⟨if_neg e2, if_neg e2, e⟩
theorem g3 {t : List DSlot} {key : ByteArray} (h : check t = 0) (h2 : (key.size : Int) ≤ 40) (h3 : (find t key).1 < 0) : has t key = 0 ∧ looked t key = 0 ∧ keyErr t key = 5 := by
  have e : keyErr t key = 5 := by unfold keyErr; rw [if_neg (by simp [h]), if_neg (by omega), if_pos h3]
  have e2 : keyErr t key ≠ 0 := by rw [e]; decide
  exact ⟨if_neg e2, if_neg e2, e⟩
theorem g4 {t : List DSlot} {key : ByteArray} (h : check t = 0) (h2 : (key.size : Int) ≤ 40) (h3 : 0 ≤ (find t key).1) : has t key = (t.getD (find t key).1.toNat default).value ∧ looked t key = (find t key).2 ∧ keyErr t key = 0 := by
  have e : keyErr t key = 0 := by unfold keyErr; rw [if_neg (by simp [h]), if_neg (by omega), if_neg (by omega)]
  exact ⟨if_pos e, if_pos e, e⟩
end Go.Sx.Tab
namespace Go.Sx.Tab
theorem one_key {s : DSlot} (h : one s = 0) : s.key.size ≤ 40 := by
  unfold one at h
  split at h
  · cases h
  · split at h
    · cases h
    · omega
theorem go_one : ∀ {l : List DSlot} {pre : List ByteArray}, checkGo pre l = 0 → ∀ s ∈ l, one s = 0
  | [], _, _, s, hs => by cases hs
  | x :: l, pre, h, s, hs => by
    rw [checkGo] at h
    by_cases e : one x ≠ 0
    · rw [if_pos e] at h; exact absurd h e
    · rw [if_neg e] at h
      rcases List.mem_cons.1 hs with q | q
      · rw [q]; simpa using e
      · split at h
        · exact go_one h s q
        · split at h
          · cases h
          · exact go_one h s q
theorem key_le {t : List DSlot} (h : checkGo [] t = 0) {i : Nat} (hi : i < t.length) : (t.getD i default).key.size ≤ 40 := by
  rw [getd_eq hi]; exact one_key (go_one h _ (List.getElem_mem hi))
end Go.Sx.Tab
namespace Go.Sx.Tab
theorem findGo_lt (t : List DSlot) (key : ByteArray) (h : Int) (hn : 1 ≤ t.length) (h0 : 0 ≤ h) : ∀ f k, -1 ≤ (findGo t key h f k).1 ∧ (findGo t key h f k).1 < (t.length : Int)
  | 0, k => by unfold findGo; exact ⟨by decide, by omega⟩
  | f + 1, k => by
    rw [findGo]
    split
    · exact ⟨by decide, by show (-1 : Int) < _; omega⟩
    · split
      · have := place_bd (n := (t.length : Int)) (by omega) h0 k; exact ⟨by show -1 ≤ place h _ k; omega, this.2⟩
      · exact findGo_lt t key h hn h0 f (k + 1)
theorem find_lt {t : List DSlot} (key : ByteArray) (hn : 1 ≤ t.length ∧ t.length ≤ 64) : -1 ≤ (find t key).1 ∧ (find t key).1 < (t.length : Int) := findGo_lt t key _ hn.1 (home_bd key (by omega)).1 _ _
theorem putGo_lt (t : List DSlot) (key : ByteArray) (h : Int) (hn : 1 ≤ t.length) (h0 : 0 ≤ h) : ∀ f k, -1 ≤ putGo t key h f k ∧ putGo t key h f k < (t.length : Int)
  | 0, k => by unfold putGo; exact ⟨by decide, by omega⟩
  | f + 1, k => by
    rw [putGo]
    split
    · have := place_bd (n := (t.length : Int)) (by omega) h0 k; exact ⟨by omega, this.2⟩
    · exact putGo_lt t key h hn h0 f (k + 1)
theorem putAt_lt {t : List DSlot} (key : ByteArray) (hn : 1 ≤ t.length ∧ t.length ≤ 64) : -1 ≤ putAt t key ∧ putAt t key < (t.length : Int) := putGo_lt t key _ hn.1 (home_bd key (by omega)).1 _ _
theorem put_len (t : List DSlot) (key : ByteArray) (v : Int) : (put t key v).length = t.length := by unfold put; split <;> simp
end Go.Sx.Tab
namespace Go.Sx.Tab
theorem put_no {t : List DSlot} {key : ByteArray} {v : Int} (h : -1 = putAt t key) : t = put t key v ∧ false = !decide (putAt t key < 0) := by
  have h1 : putAt t key < 0 := by omega
  exact ⟨(if_pos h1).symm, by simp [h1]⟩
theorem put_yes {t : List DSlot} {key : ByteArray} {v p n : Int} (hp : 0 ≤ p ∧ p < n) (h : p = putAt t key) : t.set p.toNat ⟨true, key, v⟩ = put t key v ∧ true = !decide (putAt t key < 0) := by
  have h1 : ¬ putAt t key < 0 := by omega
  refine ⟨?_, by simp [h1]⟩
  rw [show put t key v = t.set (putAt t key).toNat ⟨true, key, v⟩ from if_neg h1, h]
end Go.Sx.Tab
namespace Go.Sx.Tab
theorem not_or2 {b : Bool} {p : Prop} (h : b = true ∧ ¬ p) : ¬ (b = false ∨ p) := by rintro (a | a); rw [h.1] at a; cases a; exact h.2 a
end Go.Sx.Tab
namespace Go.Sx.Tab
theorem p1 {t : List DSlot} {key : ByteArray} {v : Int} (h : check t ≠ 0) : putR t key v = [] ∧ putErr t key v = check t := by
  have e : putErr t key v = check t := if_pos h
  exact ⟨if_neg (by rw [e]; exact h), e⟩
theorem p2 {t : List DSlot} {key : ByteArray} {v : Int} (h : check t = 0) (h2 : 40 < (key.size : Int) ∨ okVal v = false) : putR t key v = [] ∧ putErr t key v = 3 := by
  have e : putErr t key v = 3 := by unfold putErr; rw [if_neg (by simp [h]), if_pos h2]
  exact ⟨if_neg (by rw [e]; decide), e⟩
theorem rg_no {key : ByteArray} {v : Int} (h2 : (key.size : Int) ≤ 40 ∧ okVal v = true) : ¬ (40 < (key.size : Int) ∨ okVal v = false) := by
  rintro (a | a)
  · omega
  · rw [h2.2] at a; cases a
theorem p3 {t : List DSlot} {key : ByteArray} {v : Int} (h : check t = 0) (h2 : (key.size : Int) ≤ 40 ∧ okVal v = true) (h3 : putAt t key < 0) : putR t key v = [] ∧ putErr t key v = 8 := by
  have e : putErr t key v = 8 := by unfold putErr; rw [if_neg (by simp [h]), if_neg (rg_no h2), if_pos h3]
  exact ⟨if_neg (by rw [e]; decide), e⟩
theorem p4 {t : List DSlot} {key : ByteArray} {v : Int} (h : check t = 0) (h2 : (key.size : Int) ≤ 40 ∧ okVal v = true) (h3 : 0 ≤ putAt t key) : putR t key v = put t key v ∧ putErr t key v = 0 := by
  have e : putErr t key v = 0 := by unfold putErr; rw [if_neg (by simp [h]), if_neg (rg_no h2), if_neg (by omega)]
  exact ⟨if_pos e, e⟩
theorem ck_go {t : List DSlot} (h : check t = 0) : checkGo [] t = 0 := by
  unfold check at h
  split at h
  · cases h
  · split at h
    · cases h
    · split at h
      · rename_i h1; exact absurd h h1
      · rename_i h1; simpa using h1
theorem key_of {t : List DSlot} (h : check t = 0) {i : Nat} (hi : i < t.length) : t[i].key.size ≤ 40 := by
  have := key_le (ck_go h) hi; rw [getd_eq hi] at this; exact this
theorem key_ok {t : List DSlot} {key : ByteArray} (h : keyErr t key = 0) : check t = 0 ∧ key.size ≤ 40 ∧ 0 ≤ (find t key).1 := by
  unfold keyErr at h
  split at h
  · rename_i h1; exact absurd h h1
  · rename_i h1
    split at h
    · cases h
    · split at h
      · cases h
      · exact ⟨by simpa using h1, by omega, by omega⟩
theorem del_bad {t : List DSlot} {key : ByteArray} (h : keyErr t key ≠ 0) : delR t key = [] := if_neg h
theorem del_ok {t l : List DSlot} {key : ByteArray} (h : keyErr t key = 0) (e : l = drop t key) : delR t key = l := by rw [e]; exact if_pos h
structure DI (t : List DSlot) (key : ByteArray) (ls : List DSlot) (ho : Int) (k : Nat) : Prop where
  le : k ≤ t.length
  len : ls.length = t.length
  hob : 0 ≤ ho ∧ ho < (t.length : Int)
  ks : ∀ i, i < ls.length → (ls.getD i default).key.size ≤ 40
  eq : dropGo (t.length : Int) (find t key).1 (t.length - k) k ls ho = drop t key
theorem getd_set {l : List DSlot} {i j : Nat} {x : DSlot} (hj : j < l.length) : (l.set i x).getD j default = if i = j then x else l.getD j default := by
  rw [← getd_at (show j < (l.set i x).length by simpa using hj) default, ← getd_at hj default, List.getElem_set]
theorem DI.start {t : List DSlot} {key : ByteArray} (h : check t = 0) (h1 : 0 ≤ (find t key).1) (h2 : (find t key).1 < (t.length : Int)) : DI t key (t.set (find t key).1.toNat none_) (find t key).1 0 := by
  refine ⟨Nat.zero_le _, by simp, ⟨h1, h2⟩, fun i hi => ?_, rfl⟩
  have hi' : i < t.length := by simpa using hi
  rw [getd_set hi']
  split
  · decide
  · exact key_le (ck_go h) hi'
theorem DI.key {t : List DSlot} {key : ByteArray} {ls : List DSlot} {ho : Int} {k : Nat} (h : DI t key ls ho k) {p : Int} (hp : 0 ≤ p ∧ p < (t.length : Int)) : (ls.getD p.toNat default).key.size ≤ 40 := h.ks _ (by rw [h.len]; omega)
theorem drop_step {n first : Int} {m k : Nat} {out : List DSlot} {hole : Int} (hk : k < m) : dropGo n first (m - k) k out hole = if place first n k = hole then dropGo n first (m - (k + 1)) (k + 1) out hole else if (out.getD (place first n k).toNat default).used = false then out
    else if (place first n k - hole + n).tmod n ≤ (place first n k - home (out.getD (place first n k).toNat default).key n + n).tmod n then
      dropGo n first (m - (k + 1)) (k + 1) ((out.set hole.toNat (out.getD (place first n k).toNat default)).set (place first n k).toNat none_) (place first n k)
    else dropGo n first (m - (k + 1)) (k + 1) out hole := by
  rw [show m - k = (m - (k + 1)) + 1 by omega, dropGo]
section
variable {t : List DSlot} {key : ByteArray} {ls : List DSlot} {ho : Int} {k : Nat}
theorem DI.same (h : DI t key ls ho k) (hk : k < t.length) (he : place (find t key).1 (t.length : Int) k = ho) : DI t key ls ho (k + 1) := ⟨hk, h.len, h.hob, h.ks, by rw [← h.eq, drop_step hk, if_pos he]⟩
theorem DI.stop (h : DI t key ls ho k) (hk : k < t.length) (he : ¬ place (find t key).1 (t.length : Int) k = ho) (hu : (ls.getD (place (find t key).1 (t.length : Int) k).toNat default).used = false) : ls = drop t key := by rw [← h.eq, drop_step hk, if_neg he, if_pos hu]
theorem DI.move (h : DI t key ls ho k) (hpb : 0 ≤ place (find t key).1 (t.length : Int) k ∧ place (find t key).1 (t.length : Int) k < (t.length : Int)) (hk : k < t.length) (he : ¬ place (find t key).1 (t.length : Int) k = ho) (hu : (ls.getD (place (find t key).1 (t.length : Int) k).toNat default).used = true)
    (hm : (place (find t key).1 (t.length : Int) k - ho + (t.length : Int)).tmod (t.length : Int) ≤ (place (find t key).1 (t.length : Int) k - home (ls.getD (place (find t key).1 (t.length : Int) k).toNat default).key (t.length : Int) + (t.length : Int)).tmod (t.length : Int)) :
    DI t key ((ls.set ho.toNat (ls.getD (place (find t key).1 (t.length : Int) k).toNat default)).set (place (find t key).1 (t.length : Int) k).toNat none_) (place (find t key).1 (t.length : Int) k) (k + 1) := by
  refine ⟨hk, by simp [h.len], hpb, fun i hi => ?_, by rw [← h.eq, drop_step hk, if_neg he, if_neg (by rw [hu]; decide), if_pos hm]⟩
  have hi' : i < ls.length := by simpa using hi
  rw [getd_set (by simpa using hi')]
  split
  · decide
  · rw [getd_set hi']
    split
    · exact h.key hpb
    · exact h.ks i hi'
theorem DI.keep (h : DI t key ls ho k) (hk : k < t.length) (he : ¬ place (find t key).1 (t.length : Int) k = ho) (hu : (ls.getD (place (find t key).1 (t.length : Int) k).toNat default).used = true)
    (hm : (place (find t key).1 (t.length : Int) k - home (ls.getD (place (find t key).1 (t.length : Int) k).toNat default).key (t.length : Int) + (t.length : Int)).tmod (t.length : Int) < (place (find t key).1 (t.length : Int) k - ho + (t.length : Int)).tmod (t.length : Int)) : DI t key ls ho (k + 1) :=
  ⟨hk, h.len, h.hob, h.ks, by rw [← h.eq, drop_step hk, if_neg he, if_neg (by rw [hu]; decide), if_neg (by omega)]⟩
theorem DI.done (h : DI t key ls ho k) (hk : t.length ≤ k) : ls = drop t key := by rw [← h.eq, show t.length - k = 0 by omega]; rfl
end
theorem z1 {t : List DSlot} {n : Int} (h : check t ≠ 0) : sizeR t n = [] ∧ sizeErr t n = check t := by
  have e : sizeErr t n = check t := if_pos h
  exact ⟨if_neg (by rw [e]; exact h), e⟩
theorem z2 {t : List DSlot} {n : Int} (h : check t = 0) (h2 : n < 1 ∨ 64 < n) : sizeR t n = [] ∧ sizeErr t n = 3 := by
  have e : sizeErr t n = 3 := by unfold sizeErr; rw [if_neg (by simp [h]), if_pos h2]
  exact ⟨if_neg (by rw [e]; decide), e⟩
structure ZI (t : List DSlot) (n : Int) (ls : List DSlot) (k : Nat) : Prop where
  le : k ≤ t.length
  len : ls.length = n.toNat
  eq : fill ls (t.drop k) = fill (empty n) t
theorem ZI.start (t : List DSlot) (n : Int) : ZI t n (List.replicate n.toNat none_) 0 := ⟨Nat.zero_le _, by simp, rfl⟩
section
variable {t ls : List DSlot} {n : Int} {k : Nat}
theorem fill_step (hk : k < t.length) : fill ls (t.drop k) = if t[k].used = true then (if putAt ls t[k].key < 0 then (ls, false) else fill (put ls t[k].key t[k].value) (t.drop (k + 1))) else fill ls (t.drop (k + 1)) := by
  rw [List.drop_eq_getElem_cons hk, fill]
theorem ZI.add (h : ZI t n ls k) (hk : k < t.length) (hu : t[k].used = true ∧ 0 ≤ putAt ls t[k].key) : ZI t n (put ls t[k].key t[k].value) (k + 1) := ⟨hk, by rw [put_len, h.len], by rw [← h.eq, fill_step hk, if_pos hu.1, if_neg (by omega)]⟩
theorem ZI.skip (h : ZI t n ls k) (hk : k < t.length) (hu : t[k].used = false) : ZI t n ls (k + 1) := ⟨hk, h.len, by rw [← h.eq, fill_step hk, if_neg (by rw [hu]; decide)]⟩
theorem ZI.bad (h : ZI t n ls k) (hc : check t = 0) (hn : 1 ≤ n ∧ n ≤ 64) (hk : k < t.length) (hu : t[k].used = true ∧ putAt ls t[k].key < 0) : sizeR t n = [] ∧ sizeErr t n = 8 := by
  have e : sizeErr t n = 8 := by unfold sizeErr; rw [if_neg (by simp [hc]), if_neg (by omega), ← h.eq, fill_step hk, if_pos hu.1, if_pos hu.2, if_neg (by simp)]
  exact ⟨if_neg (by rw [e]; decide), e⟩
theorem ZI.done (h : ZI t n ls k) (hc : check t = 0) (hn : 1 ≤ n ∧ n ≤ 64) (hk : t.length ≤ k) : sizeR t n = ls ∧ sizeErr t n = 0 := by
  have h1 : fill (empty n) t = (ls, true) := by rw [← h.eq, List.drop_of_length_le hk]; rfl
  have e : sizeErr t n = 0 := by unfold sizeErr; rw [if_neg (by simp [hc]), if_neg (by omega), h1, if_pos rfl]
  refine ⟨?_, e⟩
  rw [show sizeR t n = (fill (empty n) t).1 from if_pos e, h1]
end
end Go.Sx.Tab
namespace Go.Sx.Tab
theorem in1 {p h n : Int} (hp : 0 ≤ p ∧ p < n) (hh : 0 ≤ h ∧ h < n) (hn : n ≤ 64) : -9223372036854775808 ≤ p - h ∧ p - h ≤ 9223372036854775807 := by omega
theorem in2 {p h n : Int} (hp : 0 ≤ p ∧ p < n) (hh : 0 ≤ h ∧ h < n) (hn : n ≤ 64) : -9223372036854775808 ≤ p - h + n ∧ p - h + n ≤ 9223372036854775807 := by omega
end Go.Sx.Tab
