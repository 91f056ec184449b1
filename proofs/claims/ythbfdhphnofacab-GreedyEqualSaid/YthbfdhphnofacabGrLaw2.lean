/- The greedy dual size policy: the loops of an access, and who goes. -/
import Derived.Test.YthbfdhphnofacabGrLaw
namespace Go.Sx.Greedy
structure Hy (h : DGreedy) (t : DItem) : Prop where
  room : 1 ≤ h.room ∧ h.room ≤ 1048576
  fits : Fits h.room h.floor h.things
  right : Greedy.right t = true
theorem Hy.fine {h : DGreedy} {t : DItem} (hy : Hy h t) : Fine h.things := hy.fits.fine
theorem Hy.of {h : DGreedy} {t : DItem} (h1 : check h = 0) (h2 : Greedy.right t = true) : Hy h t := ⟨(check_ok.1 h1).room, (check_ok.1 h1).fits_, h2⟩
theorem Hy.less {h : DGreedy} {t : DItem} (hy : Hy h t) (h0 : 0 < h.things.length) : Hy (less1 h (least h.things)) t := by
  have e : (h.things.getD (least h.things) default) = h.things[least h.things]'(least_lt h0) := by simp [List.getD, least_lt h0]
  refine ⟨hy.room, ?_, hy.right⟩
  unfold less1; rw [e]; exact hy.fits.erase h0
theorem less1_eq {h : DGreedy} {i : Nat} (hi : i < h.things.length) : (⟨h.room, h.things[i].worth, h.things.take i ++ h.things.drop (i + 1)⟩ : DGreedy) = less1 h i := by
  unfold less1; rw [← List.eraseIdx_eq_take_drop_succ]; simp [List.getD, hi]
structure AInv (h : DGreedy) (t : DItem) (cc : DGreedy) (gone : List Int) (sz : Int) : Prop where
  room : cc.room = h.room
  room1 : 1 ≤ h.room ∧ h.room ≤ 1048576
  fits : Fits h.room cc.floor cc.things
  right : Greedy.right t = true
  size : t.size ≤ h.room
  no : at_ h.things t.key < 0
  len : cc.things.length + gone.length = h.things.length
  hlen : h.things.length ≤ 40
  sz : sz = sizes cc.things
  go : evict h.room t.size h.things.length h.floor h.things = ((evict h.room t.size cc.things.length cc.floor cc.things).1, (evict h.room t.size cc.things.length cc.floor cc.things).2.1, gone ++ (evict h.room t.size cc.things.length cc.floor cc.things).2.2)
theorem AInv.start {h : DGreedy} {t : DItem} (h1 : check h = 0) (h2 : Greedy.right t = true) (h3 : at_ h.things t.key < 0) (h4 : t.size ≤ h.room) : AInv h t h [] (sizes h.things) :=
  ⟨rfl, (check_ok.1 h1).room, (check_ok.1 h1).fits_, h2, h4, h3, by simp, (check_ok.1 h1).len, rfl, rfl⟩
theorem AInv.bd {h : DGreedy} {t : DItem} {cc : DGreedy} {gone : List Int} {sz : Int} (hi : AInv h t cc gone sz) : 0 ≤ sz ∧ sz ≤ 41943040 ∧ cc.things.length ≤ 40 ∧ 1 ≤ t.size ∧ t.size ≤ 1048576 ∧ 0 ≤ cc.floor ∧ cc.floor ≤ 1125899906842624 := by
  have h1 := sizes_bd hi.fits.right
  have h2 := hi.fits.len
  have h3 := right_ok hi.right
  have h4 := hi.fits.fl
  rw [hi.sz]; omega
theorem AInv.pos {h : DGreedy} {t : DItem} {cc : DGreedy} {gone : List Int} {sz : Int} (hi : AInv h t cc gone sz) (hc : h.room < sz + t.size ∨ (cc.things.length : Int) = 40) : 0 < cc.things.length := by
  rcases Nat.eq_zero_or_pos cc.things.length with h0 | h0
  · have e := List.length_eq_zero_iff.1 h0
    have := hi.size
    rcases hc with hc | hc
    · rw [hi.sz, e] at hc; simp only [sizes] at hc; omega
    · omega
  · exact h0
theorem AInv.next {h : DGreedy} {t : DItem} {cc : DGreedy} {gone : List Int} {sz : Int} (hi : AInv h t cc gone sz) (hc : h.room < sz + t.size ∨ (cc.things.length : Int) = 40) (hl : least cc.things < cc.things.length) :
    AInv h t ⟨cc.room, cc.things[least cc.things].worth, cc.things.take (least cc.things) ++ cc.things.drop (least cc.things + 1)⟩ (gone ++ [cc.things[least cc.things].key]) (sz - cc.things[least cc.things].size) := by
  have h0 := hi.pos hc
  have hsz := sizes_erase hl
  have hle := List.length_eraseIdx_of_lt hl
  have hf := hi.fits.erase h0
  rw [← List.eraseIdx_eq_take_drop_succ]
  refine ⟨hi.room, hi.room1, hf, hi.right, hi.size, hi.no, ?_, hi.hlen, ?_, ?_⟩
  · simp only [List.length_append, List.length_singleton]; have := hi.len; omega
  · have := hi.sz; simp only; omega
  · rw [hi.go, evict_step h0 (by rcases hc with hc | hc; exact .inl (by rw [← hi.sz]; exact hc); exact .inr (by omega))]
    simp
theorem AInv.less {cc : DGreedy} (hl : least cc.things < cc.things.length) : (cc.things.take (least cc.things) ++ cc.things.drop (least cc.things + 1)).length < cc.things.length := by
  rw [← List.eraseIdx_eq_take_drop_succ, List.length_eraseIdx_of_lt hl]; omega
theorem AInv.done {h : DGreedy} {t : DItem} {cc : DGreedy} {gone : List Int} {sz : Int} (hi : AInv h t cc gone sz) (hc : sz + t.size ≤ h.room) (hc2 : (cc.things.length : Int) ≠ 40) : touch h t = (⟨cc.room, cc.floor, cc.things ++ [put cc.floor t]⟩, false, gone) := by
  rw [touch_new hi.no hi.size, hi.go, evict_stop (by have := hi.sz; omega), hi.room]; simp
theorem acc_cases (h : DGreedy) (t : DItem) : (check h ≠ 0 ∧ access h t = (zero, false, []) ∧ accessErr h t = check h) ∨ (check h = 0 ∧ right t = false ∧ access h t = (zero, false, []) ∧ accessErr h t = 3) ∨ (check h = 0 ∧ right t = true ∧ access h t = touch h t ∧ accessErr h t = 0) := by
  by_cases hc : check h = 0
  · cases hr : right t
    · have e : accessErr h t = 3 := by unfold accessErr; rw [if_pos hc, if_neg (by simp [hr])]
      exact .inr (.inl ⟨hc, rfl, by unfold access; rw [e]; rfl, e⟩)
    · have e : accessErr h t = 0 := by unfold accessErr; rw [if_pos hc, if_pos hr]
      exact .inr (.inr ⟨hc, rfl, by unfold access; rw [if_pos e], e⟩)
  · have e : accessErr h t = check h := by unfold accessErr; rw [if_neg hc]
    exact .inl ⟨hc, by unfold access; rw [e, if_neg hc], e⟩
theorem acc1 {h : DGreedy} {t : DItem} (e : check h ≠ 0) : access h t = (zero, false, []) ∧ accessErr h t = check h := by
  rcases acc_cases h t with ⟨_, b⟩ | ⟨a, _⟩ | ⟨a, _⟩
  · exact b
  · exact absurd a e
  · exact absurd a e
theorem acc2 {h : DGreedy} {t : DItem} (e : check h = 0 ∧ right t = false) : access h t = (zero, false, []) ∧ accessErr h t = 3 := by
  rcases acc_cases h t with ⟨a, _⟩ | ⟨_, _, b⟩ | ⟨_, b, _⟩
  · exact absurd e.1 a
  · exact b
  · rw [e.2] at b; cases b
theorem acc3 {h : DGreedy} {t : DItem} (e : check h = 0) (e2 : right t = true) : access h t = touch h t ∧ accessErr h t = 0 := by
  rcases acc_cases h t with ⟨a, _⟩ | ⟨_, b, _⟩ | ⟨_, _, b⟩
  · exact absurd e a
  · rw [e2] at b; cases b
  · exact b
theorem acc_hit {h : DGreedy} {t : DItem} (e : check h = 0) (e2 : right t = true) (hh : 0 ≤ idxF (fun x : DItem => (x.key == t.key)) h.things) (hl : (idxF (fun x : DItem => (x.key == t.key)) h.things).toNat < h.things.length) : access h t = (⟨h.room, h.floor, h.things.set (idxF (fun x : DItem => (x.key == t.key)) h.things).toNat (put h.floor (h.things[(idxF (fun x : DItem => (x.key == t.key)) h.things).toNat]))⟩, true, []) ∧ accessErr h t = 0 := by
  obtain ⟨a, b⟩ := acc3 e e2
  exact ⟨by rw [a, touch_hit hh], b⟩
theorem acc_big {h : DGreedy} {t : DItem} (e : check h = 0) (e2 : right t = true) (hh : at_ h.things t.key < 0) (hb : h.room < t.size) : access h t = (h, false, []) ∧ accessErr h t = 0 := by
  obtain ⟨a, b⟩ := acc3 e e2
  exact ⟨by rw [a, touch_big hh hb], b⟩
theorem acc_new {h cc : DGreedy} {t : DItem} {gone : List Int} {sz : Int} (e : check h = 0) (e2 : right t = true) (hi : AInv h t cc gone sz) (hc : sz + t.size ≤ cc.room ∧ (cc.things.length : Int) ≠ 40) : access h t = (⟨cc.room, cc.floor, cc.things ++ [put cc.floor t]⟩, false, gone) ∧ accessErr h t = 0 := by
  obtain ⟨a, b⟩ := acc3 e e2
  exact ⟨by rw [a, hi.done (by rw [← hi.room]; exact hc.1) hc.2], b⟩
theorem acc_err {h : DGreedy} {t : DItem} (e : accessErr h t = 0) : check h = 0 ∧ right t = true ∧ access h t = touch h t := by
  rcases acc_cases h t with ⟨a, b, c⟩ | ⟨a, a2, b, c⟩ | ⟨a, a2, b, c⟩
  · exact absurd (c ▸ e) a
  · rw [c] at e; cases e
  · exact ⟨a, a2, b⟩
theorem acc_bad {h : DGreedy} {t : DItem} (e : accessErr h t ≠ 0) : access h t = (zero, false, []) := if_neg e
/-! ### who goes -/
def evicted (room size : Int) : Nat → Int → List DItem → List DItem
  | 0, _, _ => []
  | f + 1, floor, l => if room < sizes l + size ∨ l.length = 40 then (l.getD (least l) default) :: evicted room size f (l.getD (least l) default).worth (l.eraseIdx (least l)) else []
theorem evicted_keys {room size : Int} : ∀ (n : Nat) (floor : Int) (l : List DItem), (evict room size n floor l).2.2 = keysOf (evicted room size n floor l)
  | 0, _, _ => rfl
  | n + 1, floor, l => by
    rw [evict, evicted]; split
    · simp only [keysOf, List.map_cons, List.cons.injEq, true_and]; exact evicted_keys n _ _
    · rfl
/-- Those that go: from the list, rising in worth, not above those that stay; the floor is the last one's. -/
theorem evicted_ok {room size : Int} (hs : size ≤ room) : ∀ (n : Nat) (floor : Int) (l : List DItem), l.length = n → (∀ t ∈ l, floor ≤ t.worth) →
    (∀ t ∈ evicted room size n floor l, t ∈ l) ∧ (evicted room size n floor l).Pairwise (fun a b => a.worth ≤ b.worth) ∧
    (∀ t ∈ l, t ∈ evicted room size n floor l ∨ ∀ x ∈ evicted room size n floor l, x.worth ≤ t.worth) ∧
    (evict room size n floor l).1 = ((evicted room size n floor l).getLast?.map (·.worth)).getD floor
  | 0, floor, l, hn, hw => by
    have : l = [] := List.length_eq_zero_iff.1 hn
    subst this; simp [evicted, evict]
  | n + 1, floor, l, hn, hw => by
    by_cases hc : room < sizes l + size ∨ l.length = 40
    · have h0 : 0 < l.length := by omega
      have hl := least_lt h0
      have e : (l.getD (least l) default) = l[least l]'hl := by simp [List.getD, hl]
      have e1 : (l.eraseIdx (least l)).length = n := by rw [List.length_eraseIdx_of_lt hl]; omega
      have hm := least_min h0
      rw [evicted, if_pos hc, evict, if_pos hc, e]
      obtain ⟨a, b, c, d⟩ := evicted_ok (room := room) hs n (l[least l]'hl).worth (l.eraseIdx (least l)) e1 (fun t ht => hm t (List.mem_of_mem_eraseIdx ht))
      refine ⟨?_, ?_, ?_, ?_⟩
      · intro t ht; rcases List.mem_cons.1 ht with rfl | ht
        · exact List.getElem_mem hl
        · exact List.mem_of_mem_eraseIdx (a t ht)
      · exact List.pairwise_cons.2 ⟨fun t ht => hm t (List.mem_of_mem_eraseIdx (a t ht)), b⟩
      · intro t ht
        by_cases he : t = l[least l]'hl
        · exact .inl (by simp [he])
        · have ht2 : t ∈ l.eraseIdx (least l) := by
            obtain ⟨j, hj, rfl⟩ := List.getElem_of_mem ht
            have hjn : j ≠ least l := fun e => he (by simp only [e])
            exact List.mem_eraseIdx_iff_getElem.2 ⟨j, hj, hjn, rfl⟩
          rcases c t ht2 with h | h
          · exact .inl (List.mem_cons_of_mem _ h)
          · exact .inr fun x hx => by
              rcases List.mem_cons.1 hx with rfl | hx
              · exact hm t ht
              · exact h x hx
      · simp only; rw [d]
        generalize evicted room size n _ _ = g
        cases g with
        | nil => rfl
        | cons x g => rw [List.getLast?_cons_cons]; rw [List.getLast?_cons]; simp
    · rw [evict_stop hc, evicted, if_neg hc]; simp
/-! ### the loops of Check -/
theorem seen_next {ν : Type} {m : List (Int × ν)} {l : List DItem} {k : Nat} (h : Lru.Seen m (keysOf l) k) (hk : k < l.length) (x : ν) : Lru.Seen (AL.set m l[k].key x) (keysOf l) (k + 1) := by
  have hk' : k < (keysOf l).length := by simpa [keysOf] using hk
  have := h.next hk' x
  have e : (keysOf l)[k] = l[k].key := by simp [keysOf]
  rw [e] at this; exact this
theorem keysOf_take (l : List DItem) (k : Nat) : keysOf (l.take k) = (keysOf l).take k := by simp [keysOf]
structure CInv (floor : Int) (l : List DItem) (k : Nat) (m : List (Int × Unit)) : Prop where
  it : IInv floor l k
  seen : Lru.Seen m (keysOf l) k
theorem CInv.start (floor : Int) (l : List DItem) : CInv floor l 0 [] := ⟨IInv.start floor l, Lru.Seen.start _⟩
theorem CInv.bad {floor : Int} {l : List DItem} {k : Nat} {m : List (Int × Unit)} (h : CInv floor l k m) (hk : k < l.length) (hb : (right l[k] = false ∨ l[k].worth < floor) ∨ 1125899906842624 < l[k].worth) : items floor l = 3 := h.it.bad hk hb
theorem CInv.twice {floor : Int} {l : List DItem} {k : Nat} {m : List (Int × Unit)} (h : CInv floor l k m) (hk : k < l.length) (hg : (right l[k] = true ∧ floor ≤ l[k].worth) ∧ l[k].worth ≤ 1125899906842624) (ht : (AL.get m l[k].key).isSome = true) : items floor l = 6 :=
  h.it.twice hk hg (by rw [keysOf_take]; exact (h.seen _).1 ht)
theorem CInv.next {floor : Int} {l : List DItem} {k : Nat} {m : List (Int × Unit)} (h : CInv floor l k m) (hk : k < l.length) (hg : (right l[k] = true ∧ floor ≤ l[k].worth) ∧ l[k].worth ≤ 1125899906842624) (ht : (AL.get m l[k].key).isSome = false) : CInv floor l (k + 1) (AL.set m l[k].key ()) :=
  ⟨h.it.next hk hg (fun hm => by rw [keysOf_take] at hm; have := (h.seen _).2 hm; rw [ht] at this; cases this), seen_next h.seen hk ()⟩
theorem CInv.done {floor : Int} {l : List DItem} {k : Nat} {m : List (Int × Unit)} (h : CInv floor l k m) (hk : (l.length : Int) ≤ k) : items floor l = 0 ∧ ∀ t ∈ l, right t = true := h.it.done hk
theorem chk_range {h : DGreedy} (e : ((h.room < 1 ∨ 1048576 < h.room) ∨ h.floor < 0) ∨ 1125899906842624 < h.floor) : 3 = check h := by unfold check; rw [if_pos (by omega)]
theorem chk_many {h : DGreedy} (e : ((1 ≤ h.room ∧ h.room ≤ 1048576) ∧ 0 ≤ h.floor) ∧ h.floor ≤ 1125899906842624) (e2 : 40 < (h.things.length : Int)) : 2 = check h := by unfold check; rw [if_neg (by omega), if_pos (by omega)]
theorem chk_items {h : DGreedy} {n : Int} (e : ((1 ≤ h.room ∧ h.room ≤ 1048576) ∧ 0 ≤ h.floor) ∧ h.floor ≤ 1125899906842624) (e2 : (h.things.length : Int) ≤ 40) (e3 : items h.floor h.things = n) (hn : n ≠ 0) : n = check h := by unfold check; rw [if_neg (by omega), if_neg (by omega), if_pos (by rw [e3]; exact hn), e3]
theorem chk_full {h : DGreedy} (e : ((1 ≤ h.room ∧ h.room ≤ 1048576) ∧ 0 ≤ h.floor) ∧ h.floor ≤ 1125899906842624) (e2 : (h.things.length : Int) ≤ 40) (e3 : items h.floor h.things = 0) (e4 : h.room < sizes h.things) : 8 = check h := by unfold check; rw [if_neg (by omega), if_neg (by omega), if_neg (by simp [e3]), if_pos e4]
theorem chk_fine {h : DGreedy} (e : ((1 ≤ h.room ∧ h.room ≤ 1048576) ∧ 0 ≤ h.floor) ∧ h.floor ≤ 1125899906842624) (e2 : (h.things.length : Int) ≤ 40) (e3 : items h.floor h.things = 0) (e4 : sizes h.things ≤ h.room) : 0 = check h := by unfold check; rw [if_neg (by omega), if_neg (by omega), if_neg (by simp [e3]), if_neg (by omega)]
/-- the keys ahead are others -/
structure KInv (l : List DItem) (i k : Nat) : Prop where
  le : k ≤ i
  il : i < l.length
  ne : ∀ j (h : j < l.length), j < k → l[j].key ≠ l[i].key
theorem KInv.start {l : List DItem} {i : Nat} (h : i < l.length) : KInv l i 0 := ⟨Nat.zero_le _, h, fun j _ h => absurd h (by omega)⟩
theorem KInv.next {l : List DItem} {i k : Nat} (h : KInv l i k) (hk : k < i) (hl : k < l.length) (hi : i < l.length) (hne : l[k].key ≠ l[i].key) : KInv l i (k + 1) :=
  ⟨hk, h.il, fun j hj hlt => by
    by_cases e : j = k
    · subst e; exact hne
    · exact h.ne j hj (by omega)⟩
theorem mem_keys_take {l : List DItem} {i : Nat} {k : Int} : k ∈ keysOf (l.take i) ↔ ∃ j, ∃ h : j < l.length, j < i ∧ l[j].key = k := by
  unfold keysOf
  rw [List.mem_map]
  constructor
  · rintro ⟨x, hx, rfl⟩
    obtain ⟨j, hj, rfl⟩ := List.getElem_of_mem hx
    simp only [List.length_take] at hj
    exact ⟨j, by omega, by omega, by rw [List.getElem_take]⟩
  · rintro ⟨j, hj, hlt, rfl⟩
    exact ⟨l[j], List.mem_take_iff_getElem.2 ⟨j, by omega, rfl⟩, rfl⟩
theorem IInv.dup {floor : Int} {l : List DItem} {i k : Nat} (h : IInv floor l i) (hi : i < l.length) (hg : (right l[i] = true ∧ floor ≤ l[i].worth) ∧ l[i].worth ≤ 1125899906842624) (hk : k < i) (hl : k < l.length) (he : l[k].key = l[i].key) : items floor l = 6 :=
  h.twice hi hg (mem_keys_take.2 ⟨k, hl, hk, he⟩)
theorem IInv.on {floor : Int} {l : List DItem} {i k : Nat} (h : IInv floor l i) (hi : i < l.length) (hg : (right l[i] = true ∧ floor ≤ l[i].worth) ∧ l[i].worth ≤ 1125899906842624) (hI : KInv l i k) (hk : i ≤ k) : IInv floor l (i + 1) :=
  h.next hi hg (fun hm => by
    obtain ⟨j, hj, hlt, e⟩ := mem_keys_take.1 hm
    exact hI.ne j hj (by omega) e)
/-! ### the reference's least -/
structure LInv (l : List DItem) (i : Nat) : Prop where
  le : i ≤ l.length
  not : ∀ j (h : j < l.length), j < i → ∃ t ∈ l, t.worth < l[j].worth
theorem LInv.start (l : List DItem) : LInv l 0 := ⟨Nat.zero_le _, fun j _ h => absurd h (by omega)⟩
structure MInv (l : List DItem) (i : Nat) (best : Bool) (k : Nat) : Prop where
  le : k ≤ l.length
  il : i < l.length
  yes : best = true → ∀ j (h : j < l.length), j < k → l[i].worth ≤ l[j].worth
  no : best = false → ∃ t ∈ l, t.worth < l[i].worth
theorem MInv.start {l : List DItem} {i : Nat} (h : i < l.length) : MInv l i true 0 := ⟨Nat.zero_le _, h, fun _ j _ h => absurd h (by omega), fun h => by cases h⟩
theorem MInv.less {l : List DItem} {i k : Nat} {best : Bool} (h : MInv l i best k) (hk : k < l.length) (hi : i < l.length) (hw : l[k].worth < l[i].worth) : MInv l i false (k + 1) := ⟨hk, hi, fun h => (by cases h), fun _ => ⟨_, List.getElem_mem hk, hw⟩⟩
theorem MInv.not {l : List DItem} {i k : Nat} {best : Bool} (h : MInv l i best k) (hk : k < l.length) (hi : i < l.length) (hw : l[i].worth ≤ l[k].worth) : MInv l i best (k + 1) := by
  refine ⟨hk, hi, fun hb j hj hlt => ?_, h.no⟩
  by_cases e : j = k
  · subst e; exact hw
  · exact h.yes hb j hj (by omega)
theorem MInv.found {l : List DItem} {i k : Nat} (hL : LInv l i) (h : MInv l i true k) (hk : (l.length : Int) ≤ k) : (i : Int) = (least l : Int) := by
  have h0 : 0 < l.length := by have := h.il; omega
  rw [least_first h0 h.il (fun t ht => by obtain ⟨j, hj, rfl⟩ := List.getElem_of_mem ht; exact h.yes rfl j hj (by omega)) hL.not]
theorem MInv.onward {l : List DItem} {i k : Nat} (hL : LInv l i) (h : MInv l i false k) : LInv l (i + 1) := ⟨h.il, fun j hj hlt => by
  by_cases e : j = i
  · subst e; exact h.no rfl
  · exact hL.not j hj (by omega)⟩
theorem LInv.done {l : List DItem} {i : Nat} (h : LInv l i) (hk : (l.length : Int) ≤ i) (h0 : 0 < l.length) : False := by
  obtain ⟨t, ht, hw⟩ := h.not (least l) (least_lt h0) (by have := least_lt h0; omega)
  have := least_min h0 t ht; omega
theorem fresh_eq {floor : Int} {t : DItem} (ht : right t = true) : (if 1125899906842624 < floor + (1024 * t.cost - (1024 * t.cost).tmod t.size).tdiv t.size then 1125899906842624 else floor + (1024 * t.cost - (1024 * t.cost).tmod t.size).tdiv t.size) = fresh floor t := by
  have hr := right_ok ht
  have e : (1024 * t.cost - (1024 * t.cost).tmod t.size) = t.size * (1024 * t.cost).tdiv t.size := by
    have := Int.mul_tdiv_add_tmod (1024 * t.cost) t.size; omega
  rw [e, Int.mul_tdiv_cancel_left _ (by omega)]
  unfold fresh; omega
theorem tdiv_bd {t : DItem} (ht : right t = true) : 0 ≤ (1024 * t.cost).tdiv t.size ∧ (1024 * t.cost).tdiv t.size ≤ 1073741824 := by
  have hr := right_ok ht
  have h1 : 0 ≤ (1024 * t.cost).tdiv t.size := Int.tdiv_nonneg (by omega) (by omega)
  have h2 := Int.mul_tdiv_add_tmod (1024 * t.cost) t.size
  have h3 : 0 ≤ (1024 * t.cost).tmod t.size := Int.tmod_nonneg _ (by omega)
  have h4 : (1024 * t.cost).tdiv t.size ≤ t.size * (1024 * t.cost).tdiv t.size := by
    have := Int.mul_le_mul_of_nonneg_right (show (1 : Int) ≤ t.size by omega) h1
    omega
  exact ⟨h1, by omega⟩
theorem total_cases (h : DGreedy) : (check h ≠ 0 ∧ total h = (0, 0)) ∨ (check h = 0 ∧ total h = (sizes h.things, costs h.things)) := by
  by_cases e : check h = 0
  · exact .inr ⟨e, if_pos e⟩
  · exact .inl ⟨e, if_neg e⟩
theorem tot_ok {h : DGreedy} (e : check h = 0) : total h = (sizes h.things, costs h.things) := if_pos e
theorem tot_bad {h : DGreedy} (e : check h ≠ 0) : total h = (0, 0) := if_neg e
theorem vic_bad {h : DGreedy} (e : check h ≠ 0) : victim h = 0 ∧ victimErr h = check h := by
  have e2 : victimErr h = check h := by unfold victimErr; rw [if_neg e]
  exact ⟨by unfold victim; rw [if_neg (by rw [e2]; exact e)], e2⟩
theorem vic_none {h : DGreedy} (e : check h = 0 ∧ (h.things.length : Int) = 0) : victim h = 0 ∧ victimErr h = 5 := by
  have e2 : victimErr h = 5 := by unfold victimErr; rw [if_pos e.1, if_pos (by omega)]
  exact ⟨by unfold victim; rw [if_neg (by rw [e2]; decide)], e2⟩
theorem vic_ok {h : DGreedy} (e : check h = 0) (hl : least h.things < h.things.length) : victim h = (h.things[least h.things]).key ∧ victimErr h = 0 := by
  have e2 : victimErr h = 0 := by unfold victimErr; rw [if_pos e, if_neg (by omega)]
  exact ⟨by unfold victim; rw [if_pos e2]; simp [List.getD, hl], e2⟩
theorem ref_bd {t : DItem} (ht : right t = true) : 0 ≤ (1024 * t.cost).tmod t.size ∧ (1024 * t.cost).tmod t.size ≤ 1024 * t.cost ∧ 0 ≤ (1024 * t.cost - (1024 * t.cost).tmod t.size).tdiv t.size ∧ (1024 * t.cost - (1024 * t.cost).tmod t.size).tdiv t.size ≤ 1073741824 := by
  have hr := right_ok ht
  have h0 := tdiv_bd ht
  have e : (1024 * t.cost - (1024 * t.cost).tmod t.size) = t.size * (1024 * t.cost).tdiv t.size := by
    have := Int.mul_tdiv_add_tmod (1024 * t.cost) t.size; omega
  have h1 : 0 ≤ t.size * (1024 * t.cost).tdiv t.size := Int.mul_nonneg (by omega) h0.1
  have h3 : 0 ≤ (1024 * t.cost).tmod t.size := Int.tmod_nonneg _ (by omega)
  refine ⟨h3, by omega, ?_⟩
  rw [e, Int.mul_tdiv_cancel_left _ (by omega)]; exact h0
theorem MInv.found' {l : List DItem} {i k : Nat} {best : Bool} (hL : LInv l i) (h : MInv l i best k) (hk : (l.length : Int) ≤ k) (hb : best = true) : (i : Int) = (least l : Int) := by subst hb; exact MInv.found hL h hk
theorem MInv.onward' {l : List DItem} {i k : Nat} {best : Bool} (hL : LInv l i) (h : MInv l i best k) (hb : best = false) : LInv l (i + 1) := by subst hb; exact MInv.onward hL h
theorem Hy.less' {h : DGreedy} {t : DItem} (hy : Hy h t) (hl : least h.things < h.things.length) : Hy (⟨h.room, h.things[least h.things].worth, h.things.take (least h.things) ++ h.things.drop (least h.things + 1)⟩ : DGreedy) t := by
  rw [less1_eq hl]; exact hy.less (by omega)
theorem touch_rec' {h : DGreedy} {t : DItem} (hh : at_ h.things t.key < 0) (hb : t.size ≤ h.room) (hl : least h.things < h.things.length) (hf : h.room < sizes h.things + t.size ∨ (h.things.length : Int) = 40) :
    touch h t = ((touch (⟨h.room, h.things[least h.things].worth, h.things.take (least h.things) ++ h.things.drop (least h.things + 1)⟩ : DGreedy) t).1, false, h.things[least h.things].key :: (touch (⟨h.room, h.things[least h.things].worth, h.things.take (least h.things) ++ h.things.drop (least h.things + 1)⟩ : DGreedy) t).2.2) := by
  rw [less1_eq hl, (touch_rec hh hb (by omega) (by omega)).1]
  simp [List.getD, hl]
theorem pos_of {h : DGreedy} {t : DItem} (hb : t.size ≤ h.room) (hf : h.room < sizes h.things + t.size ∨ (h.things.length : Int) = 40) : 0 < h.things.length := by
  rcases Nat.eq_zero_or_pos h.things.length with h0 | h0
  · have e := List.length_eq_zero_iff.1 h0
    rcases hf with hf | hf
    · rw [e] at hf; simp only [sizes] at hf; omega
    · omega
  · exact h0
theorem evict_gone {room size : Int} : ∀ (n : Nat) (floor : Int) (l : List DItem), (evict room size n floor l).2.2.length ≤ n
  | 0, _, _ => Nat.le_refl _
  | n + 1, floor, l => by
    rw [evict]; split
    · have := evict_gone (room := room) (size := size) n (l.getD (least l) default).worth (l.eraseIdx (least l)); simp only [List.length_cons]; omega
    · exact Nat.zero_le _
theorem gone_le (h : DGreedy) (t : DItem) : (touch h t).2.2.length ≤ h.things.length := by
  unfold touch
  split
  · exact Nat.zero_le _
  · split
    · exact Nat.zero_le _
    · exact evict_gone _ _ _
theorem gone_le' {h : DGreedy} {t : DItem} (hl : least h.things < h.things.length) : (touch (⟨h.room, h.things[least h.things].worth, h.things.take (least h.things) ++ h.things.drop (least h.things + 1)⟩ : DGreedy) t).2.2.length ≤ h.things.length := by
  have := gone_le (⟨h.room, h.things[least h.things].worth, h.things.take (least h.things) ++ h.things.drop (least h.things + 1)⟩ : DGreedy) t
  simp only [List.length_append, List.length_take, List.length_drop] at this; omega
theorem same_greedy {a b : DGreedy} : a = b ↔ a.room = b.room ∧ a.floor = b.floor ∧ a.things = b.things := by
  constructor
  · rintro rfl; exact ⟨rfl, rfl, rfl⟩
  · rintro ⟨h1, h2, h3⟩; cases a; cases b; simp_all
theorem same_no {a b : DGreedy} (h : (a.room ≠ b.room ∨ a.floor ≠ b.floor) ∨ (a.things.length : Int) ≠ b.things.length) : false = decide (a = b) := by
  refine (decide_eq_false fun e => ?_).symm
  subst e; simp at h
theorem item_eq {f g : DItem} (h1 : f.key = g.key) (h2 : f.size = g.size) (h3 : f.cost = g.cost) (h4 : f.worth = g.worth) : f = g := by cases f; cases g; simp_all
theorem same_no2 {a b : DGreedy} {i : Nat} {h1 : i < a.things.length} {h2 : i < b.things.length} (h : a.things[i].key ≠ b.things[i].key ∨ a.things[i].size ≠ b.things[i].size ∨ a.things[i].cost ≠ b.things[i].cost ∨ a.things[i].worth ≠ b.things[i].worth) : false = decide (a = b) := by
  refine (decide_eq_false fun e => ?_).symm
  subst e; simp at h
theorem same_yes {a b : DGreedy} (h1 : (a.room = b.room ∧ a.floor = b.floor) ∧ (a.things.length : Int) = b.things.length) (h : ∀ j (h1 : j < a.things.length) (h2 : j < b.things.length), a.things[j] = b.things[j]) : true = decide (a = b) := by
  refine (decide_eq_true (same_greedy.2 ⟨h1.1.1, h1.1.2, List.ext_getElem (by omega) fun i q1 q2 => h i q1 q2⟩)).symm
end Go.Sx.Greedy
