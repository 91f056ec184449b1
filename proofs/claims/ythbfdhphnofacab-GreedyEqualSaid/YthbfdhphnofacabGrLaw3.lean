/- The greedy dual size policy: what the statements say. -/
import Derived.Test.YthbfdhphnofacabGrLaw2
namespace Go.Sx.Greedy
/-! ### GreedySpec -/
theorem costs_snoc {l : List DItem} {i : Nat} (h : i < l.length) : costs (l.take (i + 1)) = costs (l.take i) + l[i].cost := by
  rw [List.take_succ_eq_append_getElem h, costs_append]; simp [costs]
theorem costs_bd {l : List DItem} (hf : Fine l) (i : Nat) : 0 ≤ costs (l.take i) ∧ costs (l.take i) ≤ 42991616 := by
  have h1 := sizes_bd (l := l.take i) (fun t ht => hf.right t (List.mem_of_mem_take ht))
  have h2 : (l.take i).length ≤ 41 := Nat.le_trans (List.length_take_le' i l) hf.len
  omega
theorem costs_all {l : List DItem} {i : Nat} (h : (l.length : Int) ≤ i) : costs (l.take i) = costs l := by rw [List.take_of_length_le (by omega)]
/-! ### GreedyFits -/
theorem there_iff {h : DGreedy} {t : DItem} (ho : Ok h) (hr : right t = true) : (∃ x ∈ (touch h t).1.things, x.key = t.key) ↔ ((touch h t).2.1 = true ∨ t.size ≤ h.room) := by
  by_cases hh : at_ h.things t.key < 0
  · by_cases hb : t.size ≤ h.room
    · rw [touch_new hh hb]
      exact ⟨fun _ => .inr hb, fun _ => ⟨put _ t, List.mem_append_right _ (List.mem_singleton.2 rfl), rfl⟩⟩
    · rw [touch_big hh (by omega)]
      refine ⟨fun ⟨x, hx, e⟩ => absurd e (at_neg'.1 hh x hx), fun h => ?_⟩
      rcases h with h | h
      · cases h
      · exact absurd h hb
  · have hh' : 0 ≤ at_ h.things t.key := by omega
    rw [touch_hit hh']
    refine ⟨fun _ => .inl rfl, fun _ => ?_⟩
    rcases idxF_cases (fun x : DItem => (x.key == t.key)) h.things with ⟨k, hk, e, h1, _⟩ | ⟨e, _⟩
    · have e2 : (at_ h.things t.key).toNat = k := by unfold at_; rw [e]; rfl
      simp only [e2]
      have h2 : h.things[k].key = t.key := by simpa using h1
      exact ⟨put h.floor h.things[k], List.mem_iff_getElem.2 ⟨k, by simpa using hk, by simp⟩, h2⟩
    · unfold at_ at hh'; omega
theorem gone_hit {h : DGreedy} {t : DItem} (hh : (touch h t).2.1 = true) : (touch h t).2.2 = [] := by
  unfold touch at hh ⊢
  split
  · rfl
  · rename_i h1; rw [if_neg h1] at hh; split at hh <;> cases hh
theorem gone_acc {h : DGreedy} {t : DItem} (hh : accessErr h t ≠ 0 ∨ (access h t).2.1 = true) : (access h t).2.2 = [] := by
  by_cases e : accessErr h t = 0
  · obtain ⟨_, _, c⟩ := acc_err e
    rcases hh with hh | hh
    · exact absurd e hh
    · rw [c] at hh ⊢; exact gone_hit hh
  · rw [acc_bad e]
structure TInv (l : List DItem) (key : Int) (there : Bool) (k : Nat) : Prop where
  le : k ≤ l.length
  eq : there = true ↔ ∃ j, ∃ h : j < l.length, j < k ∧ l[j].key = key
theorem TInv.start (l : List DItem) (key : Int) : TInv l key false 0 := ⟨Nat.zero_le _, by simp⟩
theorem TInv.next {l : List DItem} {key : Int} {there : Bool} {k : Nat} (h : TInv l key there k) (hk : k < l.length) : TInv l key (there || (l[k].key == key)) (k + 1) := by
  refine ⟨hk, ?_⟩
  rw [Bool.or_eq_true, h.eq, beq_iff_eq]
  constructor
  · rintro (⟨j, hj, hlt, e⟩ | e)
    · exact ⟨j, hj, by omega, e⟩
    · exact ⟨k, hk, by omega, e⟩
  · rintro ⟨j, hj, hlt, e⟩
    by_cases e2 : j = k
    · subst e2; exact .inr e
    · exact .inl ⟨j, hj, by omega, e⟩
theorem TInv.done {l : List DItem} {key : Int} {there : Bool} {k : Nat} (h : TInv l key there k) (hk : (l.length : Int) ≤ k) : there = true ↔ ∃ x ∈ l, x.key = key := by
  rw [h.eq]
  constructor
  · rintro ⟨j, hj, _, e⟩; exact ⟨_, List.getElem_mem hj, e⟩
  · rintro ⟨x, hx, e⟩; obtain ⟨j, hj, rfl⟩ := List.getElem_of_mem hx; exact ⟨j, hj, by omega, e⟩
theorem fits_no {h : DGreedy} {t : DItem} {there : Bool} {k : Nat} (e : accessErr h t = 0) (hT : TInv (access h t).1.things t.key there k) (hk : ((access h t).1.things.length : Int) ≤ k) :
    check (access h t).1 = 0 ∧ h.floor ≤ (access h t).1.floor ∧ there = ((access h t).2.1 || decide (t.size ≤ h.room)) ∧ ((access h t).2.1 = true → (access h t).2.2.length = 0) := by
  obtain ⟨a, b, c⟩ := acc_err e
  have h1 := hT.done hk
  rw [c] at h1 ⊢
  have ho := check_ok.1 a
  obtain ⟨o1, o2, _⟩ := ho.touch b
  refine ⟨check_ok.2 o1, o2, ?_, fun hh => by rw [gone_hit hh]; rfl⟩
  have h2 := there_iff ho b
  rw [Bool.eq_iff_iff, h1, h2]; simp
theorem fits_bad {h : DGreedy} {t : DItem} (e : accessErr h t ≠ 0) : access h t = (zero, false, []) := acc_bad e
/-! ### GreedyVictims -/
def worthOf (l : List DItem) (key : Int) : Int := ((l.find? fun x => x.key == key).map (·.worth)).getD (-1)
theorem worth_found {l : List DItem} {key : Int} {i : Nat} (hi : i < l.length) (hk : l[i].key = key) (hn : ∀ j (h : j < l.length), j < i → l[j].key ≠ key) : worthOf l key = l[i].worth := by
  unfold worthOf
  have : l.find? (fun x => x.key == key) = some l[i] := by
    rw [List.find?_eq_some_iff_getElem]
    exact ⟨by simpa using hk, i, hi, rfl, fun j hj => by simpa using hn j (by omega) hj⟩
  rw [this]; rfl
theorem worth_none {l : List DItem} {key : Int} (hn : ∀ j (h : j < l.length), l[j].key ≠ key) : worthOf l key = -1 := by
  unfold worthOf
  have : l.find? (fun x => x.key == key) = none := by
    rw [List.find?_eq_none]
    intro x hx
    obtain ⟨j, hj, rfl⟩ := List.getElem_of_mem hx
    simpa using hn j hj
  rw [this]; rfl
theorem worth_mem {l : List DItem} (hn : (keysOf l).Nodup) {x : DItem} (hx : x ∈ l) : worthOf l x.key = x.worth := by
  obtain ⟨i, hi, rfl⟩ := List.getElem_of_mem hx
  refine worth_found hi rfl fun j hj hlt e => ?_
  have h1 := List.pairwise_iff_getElem.1 hn
  exact h1 j i (by simpa [keysOf] using hj) (by simpa [keysOf] using hi) hlt (by simpa [keysOf] using e)
/-- who went -/
structure VS (h : DGreedy) (t : DItem) (E : List DItem) : Prop where
  ok : Ok h
  gone : (access h t).2.2 = keysOf E
  mem : ∀ x ∈ E, x ∈ h.things
  up : E.Pairwise fun a b => a.worth ≤ b.worth
  rest : ∀ x ∈ h.things, x ∈ E ∨ ∀ y ∈ E, y.worth ≤ x.worth
  floor : (access h t).1.floor = ((E.getLast?.map (·.worth)).getD h.floor)
theorem VS.of {h : DGreedy} {t : DItem} (e : accessErr h t = 0) (hh : (access h t).2.1 = false) : ∃ E, VS h t E := by
  obtain ⟨a, b, c⟩ := acc_err e
  have ho := check_ok.1 a
  have hneg : at_ h.things t.key < 0 := by
    rcases Int.lt_or_le (at_ h.things t.key) 0 with h1 | h1
    · exact h1
    · rw [c, touch_hit h1] at hh; cases hh
  by_cases hb : t.size ≤ h.room
  · obtain ⟨p, q, r, s⟩ := evicted_ok (room := h.room) hb h.things.length h.floor h.things rfl (fun t ht => (ho.worth t ht).1)
    refine ⟨evicted h.room t.size h.things.length h.floor h.things, ho, ?_, p, q, r, ?_⟩
    · rw [c, touch_new hneg hb, evicted_keys]
    · rw [c, touch_new hneg hb]; exact s
  · exact ⟨[], ho, by rw [c, touch_big hneg (by omega)]; rfl, by simp, List.Pairwise.nil, by simp, by rw [c, touch_big hneg (by omega)]; rfl⟩
def lastOf (E : List DItem) : Int := (E.getLast?.map (·.worth)).getD 0
structure EInv (h : DGreedy) (E : List DItem) (last : Int) (i : Nat) : Prop where
  le : i ≤ E.length
  eq : last = lastOf (E.take i)
theorem EInv.start (h : DGreedy) (E : List DItem) : EInv h E 0 0 := ⟨Nat.zero_le _, rfl⟩
theorem lastOf_snoc (E : List DItem) (x : DItem) : lastOf (E ++ [x]) = x.worth := by simp [lastOf]
theorem lastOf_le {E : List DItem} {n : Int} (h0 : 0 ≤ n) (h : ∀ x ∈ E, x.worth ≤ n) : lastOf E ≤ n := by
  unfold lastOf
  cases hl : E.getLast? with
  | none => simpa using h0
  | some x => simpa using h x (List.mem_of_getLast? hl)
theorem EInv.step {h : DGreedy} {t : DItem} {E : List DItem} {last : Int} {i : Nat} (hv : VS h t E) (hi : EInv h E last i) (hl : i < (access h t).2.2.length) : last ≤ worthOf h.things ((access h t).2.2[i]) ∧ EInv h E (worthOf h.things ((access h t).2.2[i])) (i + 1) := by
  have hg := hv.gone
  have hl' : i < E.length := by rw [hg] at hl; simpa [keysOf] using hl
  have e : (access h t).2.2[i] = E[i].key := by simp only [hg]; simp [keysOf]
  have e2 : worthOf h.things ((access h t).2.2[i]) = E[i].worth := by rw [e]; exact worth_mem hv.ok.once (hv.mem _ (List.getElem_mem hl'))
  rw [e2]
  have hw := hv.ok.worth _ (hv.mem _ (List.getElem_mem hl'))
  have hf := hv.ok.floor
  refine ⟨?_, hl', ?_⟩
  · rw [hi.eq]
    refine lastOf_le (by omega) fun x hx => ?_
    obtain ⟨j, hj, rfl⟩ := List.getElem_of_mem hx
    simp only [List.length_take] at hj
    rw [List.getElem_take]
    exact List.pairwise_iff_getElem.1 hv.up j i (by omega) hl' (by omega)
  · rw [List.take_succ_eq_append_getElem hl', lastOf_snoc]
theorem EInv.done {h : DGreedy} {t : DItem} {E : List DItem} {last : Int} {i : Nat} (hv : VS h t E) (hi : EInv h E last i) (hl : ((access h t).2.2.length : Int) ≤ i) : last = lastOf E := by
  have : E.length ≤ i := by rw [hv.gone] at hl; simp [keysOf] at hl; omega
  rw [hi.eq, List.take_of_length_le this]
theorem vict_no {h : DGreedy} {t : DItem} {E : List DItem} {last : Int} {i : Nat} (hv : VS h t E) (hlast : last = lastOf E) (hi : i < h.things.length) (hn : h.things[i].key ∉ (access h t).2.2) : last ≤ h.things[i].worth := by
  have hm := List.getElem_mem hi
  have hw := hv.ok.worth _ hm
  have hf := hv.ok.floor
  rw [hlast]
  refine lastOf_le (by omega) ?_
  rcases hv.rest _ hm with h1 | h1
  · exfalso; rw [hv.gone] at hn; exact hn (List.mem_map_of_mem h1)
  · exact h1
theorem vict_end {h : DGreedy} {t : DItem} {E : List DItem} {last : Int} (hv : VS h t E) (hlast : last = lastOf E) : ((access h t).2.2.length = 0 → (access h t).1.floor = h.floor) ∧ (0 < (access h t).2.2.length → (access h t).1.floor = last) := by
  rw [hv.floor, hv.gone, hlast]
  cases hl : E.getLast? with
  | none =>
    have : E = [] := List.getLast?_eq_none_iff.1 hl
    subst this; simp [keysOf]
  | some x =>
    have hne : E ≠ [] := by rintro rfl; cases hl
    have : 0 < E.length := List.length_pos_iff.2 hne
    simp [keysOf, lastOf, hl, hne]
theorem vict_bool {h : DGreedy} {t : DItem} {E : List DItem} {last : Int} (hv : VS h t E) (hlast : last = lastOf E) : ((((access h t).2.2.length : Int) == 0 && ((access h t).1.floor == h.floor)) || (decide (0 < ((access h t).2.2.length : Int)) && ((access h t).1.floor == last))) = true := by
  obtain ⟨a, b⟩ := vict_end hv hlast
  rcases Nat.eq_zero_or_pos (access h t).2.2.length with h0 | h0
  · simp [h0, a h0]
  · have : (access h t).2.2.length ≠ 0 := by omega
    simp [b h0]
    exact .inr (by omega)
/-! ### GreedyEqual -/
theorem evict_disj {room size : Int} : ∀ (n : Nat) (floor : Int) (l : List DItem), l.length = n → (keysOf l).Nodup → ∀ x ∈ (evict room size n floor l).2.1, x.key ∉ (evict room size n floor l).2.2
  | 0, floor, l, hn, h => by
    have : l = [] := List.length_eq_zero_iff.1 hn
    subst this; simp [evict]
  | n + 1, floor, l, hn, h => by
    by_cases hc : room < sizes l + size ∨ l.length = 40
    · have h0 : 0 < l.length := by omega
      have hl := least_lt h0
      have e : (l.eraseIdx (least l)).length = n := by rw [List.length_eraseIdx_of_lt hl]; omega
      have e2 := evict_step (room := room) (size := size) (floor := floor) h0 hc
      rw [hn, e] at e2
      rw [e2]
      have hn2 : (keysOf (l.eraseIdx (least l))).Nodup := h.sublist ((List.eraseIdx_sublist l _).map _)
      have ih := evict_disj (room := room) (size := size) n (l[least l]'hl).worth (l.eraseIdx (least l)) e hn2
      intro x hx hg
      rcases List.mem_cons.1 hg with hk | hg
      · -- what stays was there; its key stands once
        have hx2 : x ∈ l.eraseIdx (least l) := by
          have key : ∀ (n : Nat) (floor : Int) (l : List DItem), ∀ x ∈ (evict room size n floor l).2.1, x ∈ l := by
            intro n
            induction n with
            | zero => intro floor l x hx; exact hx
            | succ n ih =>
              intro floor l x hx
              rw [evict] at hx
              split at hx
              · exact List.mem_of_mem_eraseIdx (ih _ _ x hx)
              · exact hx
          exact key n _ _ x hx
        obtain ⟨j, hj, hne, rfl⟩ := List.mem_eraseIdx_iff_getElem.1 hx2
        have h1 := List.pairwise_iff_getElem.1 h
        rcases Nat.lt_or_gt_of_ne hne with h2 | h2
        · exact h1 j _ (by simpa [keysOf] using hj) (by simpa [keysOf] using hl) h2 (by simpa [keysOf] using hk)
        · exact h1 _ j (by simpa [keysOf] using hl) (by simpa [keysOf] using hj) h2 (by simpa [keysOf] using hk.symm)
      · exact ih x hx hg
    · rw [evict_stop hc]; simp
theorem sizes_one : ∀ {l : List DItem}, (∀ x ∈ l, x.size = 1) → sizes l = (l.length : Int)
  | [], _ => rfl
  | x :: l, h => by
    have := sizes_one (l := l) (fun y hy => h y (by simp [hy]))
    have h1 := h x (by simp)
    simp only [sizes, List.length_cons]; omega
/-- a store of things of size 1 -/
structure Ones (room : Int) (h : DGreedy) : Prop where
  rb : 1 ≤ room ∧ room ≤ 40
  room : h.room = room
  ok : Ok h
  one : ∀ x ∈ h.things, x.size = 1
theorem Ones.len {room : Int} {h : DGreedy} (ho : Ones room h) : (h.things.length : Int) ≤ room := by
  have := ho.ok.fits; rw [sizes_one ho.one, ho.room] at this; exact this
theorem Ones.start {room : Int} (h : 1 ≤ room ∧ room ≤ 40) : Ones room ⟨room, 0, []⟩ :=
  ⟨h, rfl, ⟨by simp only; omega, by simp, by simp, by simp, by simp, by simp [keysOf], by simp [sizes]; omega⟩, by simp⟩
theorem Ones.err {room : Int} {h : DGreedy} (ho : Ones room h) (t : DItem) (e : accessErr h t ≠ 0) : accessErr h t = 3 := by
  have hc := check_ok.2 ho.ok
  rcases acc_cases h t with ⟨a, _⟩ | ⟨_, _, _, b⟩ | ⟨_, _, _, b⟩
  · exact absurd hc a
  · exact b
  · exact absurd b e
theorem Ones.next {room k : Int} {h : DGreedy} (ho : Ones room h) (e : accessErr h ⟨k, 1, 1, 0⟩ = 0) :
    Ones room (access h ⟨k, 1, 1, 0⟩).1 ∧ h.floor ≤ (access h ⟨k, 1, 1, 0⟩).1.floor ∧ (access h ⟨k, 1, 1, 0⟩).2.2.length ≤ 1 ∧ ∀ x ∈ (access h ⟨k, 1, 1, 0⟩).1.things, x.key ∉ (access h ⟨k, 1, 1, 0⟩).2.2 := by
  obtain ⟨_, b, c⟩ := acc_err e
  have hl := ho.len
  have hrb := ho.rb
  have hroom := ho.room
  obtain ⟨o1, o2, o3⟩ := ho.ok.touch b
  rw [c]
  by_cases hh : at_ h.things k < 0
  · have hb : (1 : Int) ≤ h.room := by omega
    have hin : ∀ (n : Nat) (floor : Int) (l : List DItem), ∀ x ∈ (evict h.room 1 n floor l).2.1, x ∈ l := by
      intro n
      induction n with
      | zero => intro floor l x hx; exact hx
      | succ n ih =>
        intro floor l x hx
        rw [evict] at hx
        split at hx
        · exact List.mem_of_mem_eraseIdx (ih _ _ x hx)
        · exact hx
    refine ⟨⟨hrb, by rw [o3]; exact hroom, o1, ?_⟩, o2, ?_, ?_⟩
    · rw [touch_new (t := ⟨k, 1, 1, 0⟩) hh hb]
      intro x hx
      rcases List.mem_append.1 hx with hx | hx
      · exact ho.one x (hin _ _ _ x hx)
      · rw [List.mem_singleton.1 hx]; rfl
    · rw [touch_new (t := ⟨k, 1, 1, 0⟩) hh hb]
      simp only
      by_cases hc : h.room < sizes h.things + 1 ∨ h.things.length = 40
      · have h0 : 0 < h.things.length := by rw [sizes_one ho.one] at hc; omega
        have hll := least_lt h0
        rw [evict_step h0 hc, evict_stop]
        · simp
        · have h2 : ∀ x ∈ h.things.eraseIdx (least h.things), x.size = 1 := fun x hx => ho.one x (List.mem_of_mem_eraseIdx hx)
          rw [sizes_one h2, List.length_eraseIdx_of_lt hll]; omega
      · rw [evict_stop hc]; simp
    · rw [touch_new (t := ⟨k, 1, 1, 0⟩) hh hb]
      intro x hx
      rcases List.mem_append.1 hx with hx | hx
      · exact evict_disj _ _ _ rfl ho.ok.once x hx
      · rw [List.mem_singleton.1 hx, evicted_keys]
        intro hm
        obtain ⟨y, hy, he⟩ := List.mem_map.1 hm
        have hy2 := (evicted_ok (room := h.room) hb h.things.length h.floor h.things rfl (fun t ht => (ho.ok.worth t ht).1)).1 y hy
        exact at_neg'.1 hh y hy2 he
  · have hh' : 0 ≤ at_ h.things k := by omega
    refine ⟨⟨hrb, by rw [o3]; exact hroom, o1, ?_⟩, o2, ?_, ?_⟩ <;> rw [touch_hit (t := ⟨k, 1, 1, 0⟩) hh']
    · intro x hx
      rcases List.mem_or_eq_of_mem_set hx with hx | rfl
      · exact ho.one x hx
      · have h9 := ho.one (h.things[(at_ h.things k).toNat]'(by have := at_lt h.things k; omega)) (List.getElem_mem _); exact h9
    · simp
    · simp
end Go.Sx.Greedy
