/- The greedy dual size policy: what an access does. -/
import Derived.Test.YthbfdhphnofacabGrPure
namespace Go.Sx.Greedy
theorem itemsGo_ok {floor : Int} : ∀ (l : List DItem) (pre : List Int), itemsGo floor pre l = 0 ↔ (∀ t ∈ l, right t = true ∧ floor ≤ t.worth ∧ t.worth ≤ 1125899906842624) ∧ (∀ t ∈ l, t.key ∉ pre) ∧ (keysOf l).Nodup
  | [], pre => by simp [itemsGo, keysOf]
  | t :: l, pre => by
    rw [itemsGo]
    by_cases h1 : right t = false ∨ t.worth < floor ∨ 1125899906842624 < t.worth
    · rw [if_pos h1]
      refine ⟨fun h => absurd h (by decide), fun h => ?_⟩
      have h2 := h.1 t (by simp)
      rcases h1 with h1 | h1 | h1
      · rw [h2.1] at h1; cases h1
      · omega
      · omega
    · rw [if_neg h1]
      by_cases h2 : t.key ∈ pre
      · rw [if_pos h2]
        exact ⟨fun h => absurd h (by decide), fun h => absurd h2 (h.2.1 t (by simp))⟩
      · rw [if_neg h2, itemsGo_ok l]
        have h1' : right t = true ∧ floor ≤ t.worth ∧ t.worth ≤ 1125899906842624 := by
          have h3 : right t = true := by simpa using fun h => h1 (.inl h)
          exact ⟨h3, by omega, by omega⟩
        simp only [keysOf, List.map_cons, List.nodup_cons, List.mem_cons, List.mem_append, List.mem_map, List.mem_nil_iff, or_false]
        constructor
        · rintro ⟨a, b, c⟩
          refine ⟨?_, ?_, ?_, c⟩
          · rintro u (rfl | hu); exact h1'; exact a u hu
          · rintro u (rfl | hu); exact h2; exact fun hp => b u hu (.inl hp)
          · rintro ⟨u, hu, e⟩; exact b u hu (.inr e)
        · rintro ⟨a, b, c, d⟩
          refine ⟨fun u hu => a u (.inr hu), fun u hu hp => ?_, d⟩
          rcases hp with hp | hp
          · exact b u (.inr hu) hp
          · exact c ⟨u, hu, hp⟩
theorem items_ok {floor : Int} {l : List DItem} : items floor l = 0 ↔ (∀ t ∈ l, right t = true ∧ floor ≤ t.worth ∧ t.worth ≤ 1125899906842624) ∧ (keysOf l).Nodup := by
  rw [items, itemsGo_ok]; simp
theorem check_ok {h : DGreedy} : check h = 0 ↔ Ok h := by
  unfold check
  constructor
  · intro e
    repeat' split at e
    all_goals first | (exact absurd e (by decide)) | skip
    · contradiction
    · rename_i h1 h2 h3 h4
      have h3' := items_ok.1 (Decidable.not_not.1 h3)
      exact ⟨by omega, by omega, by omega, fun t ht => (h3'.1 t ht).1, fun t ht => (h3'.1 t ht).2, h3'.2, by omega⟩
  · rintro ⟨a, b, c, d, e, f, g⟩
    have hi := items_ok.2 ⟨fun t ht => ⟨d t ht, e t ht⟩, f⟩
    rw [if_neg (by omega), if_neg (by omega), if_neg (by simp [hi]), if_neg (by omega)]
theorem Ok.fine {h : DGreedy} (ho : Ok h) : Fine h.things := ⟨by have := ho.len; omega, ho.right⟩
/-! ### the least -/
theorem leastTo_min {l : List DItem} : ∀ k, k ≤ l.length → ∀ j (hj : j < l.length), j < k → (l.getD (leastTo l k) default).worth ≤ l[j].worth ∧ (leastTo l k ≤ j ∨ (l.getD (leastTo l k) default).worth < l[j].worth)
  | 0, _, _, _, h => absurd h (by omega)
  | k + 1, hk, j, hj, hjk => by
    rw [leastTo]
    have ih := leastTo_min (l := l) k (by omega) j hj
    have e : (l.getD k default) = l[k] := by simp [List.getD, show k < l.length by omega]
    split
    · rename_i h
      rw [e] at h ⊢
      by_cases hjk2 : j = k
      · subst hjk2; exact ⟨Int.le_refl _, .inl (Nat.le_refl _)⟩
      · have := ih (by omega); omega
    · rename_i h
      by_cases hjk2 : j = k
      · subst hjk2
        rw [e] at h
        refine ⟨by omega, ?_⟩
        have hle : leastTo l j ≤ j := by
          clear ih h hjk hj e
          induction j with
          | zero => simp [leastTo]
          | succ j ih2 => rw [leastTo]; split; omega; have := ih2 (by omega); omega
        exact .inl hle
      · exact ih (by omega)
theorem least_min {l : List DItem} (h0 : 0 < l.length) : ∀ t ∈ l, (l[least l]'(least_lt h0)).worth ≤ t.worth := by
  intro t ht
  obtain ⟨j, hj, rfl⟩ := List.getElem_of_mem ht
  have := (leastTo_min l.length (Nat.le_refl _) j hj hj).1
  have e : (l.getD (leastTo l l.length) default) = l[least l]'(least_lt h0) := by simp [least, List.getD, show leastTo l l.length < l.length from least_lt h0]
  rw [e] at this; exact this
theorem least_first {l : List DItem} (h0 : 0 < l.length) {i : Nat} (hi : i < l.length) (h : ∀ t ∈ l, l[i].worth ≤ t.worth) (h2 : ∀ j (hj : j < l.length), j < i → ∃ t ∈ l, t.worth < l[j].worth) : i = least l := by
  have hl := least_lt h0
  rcases Nat.lt_trichotomy (least l) i with hlt | he | hgt
  · obtain ⟨t, ht, hw⟩ := h2 _ hl hlt
    have := least_min h0 t ht; omega
  · exact he.symm
  · have h3 := leastTo_min l.length (Nat.le_refl _) i hi hi
    have e : (l.getD (leastTo l l.length) default) = l[least l]'hl := by simp [least, List.getD, show leastTo l l.length < l.length from hl]
    rw [e] at h3
    have := h _ (List.getElem_mem hl)
    unfold least at hgt
    omega
/-! ### evictions -/
theorem sizes_erase : ∀ {l : List DItem} {i : Nat} (h : i < l.length), sizes (l.eraseIdx i) + l[i].size = sizes l
  | t :: l, 0, _ => by simp [sizes]; omega
  | t :: l, i + 1, h => by
    have := sizes_erase (l := l) (i := i) (by simpa using h)
    simp only [List.eraseIdx_cons_succ, sizes, List.getElem_cons_succ]; omega
theorem evict_step {room size floor : Int} {l : List DItem} (h0 : 0 < l.length) (h : room < sizes l + size ∨ l.length = 40) : evict room size l.length floor l = ((evict room size (l.eraseIdx (least l)).length (l[least l]'(least_lt h0)).worth (l.eraseIdx (least l))).1, (evict room size (l.eraseIdx (least l)).length (l[least l]'(least_lt h0)).worth (l.eraseIdx (least l))).2.1, (l[least l]'(least_lt h0)).key :: (evict room size (l.eraseIdx (least l)).length (l[least l]'(least_lt h0)).worth (l.eraseIdx (least l))).2.2) := by
  have hl := least_lt h0
  obtain ⟨n, hn⟩ : ∃ n, l.length = n + 1 := ⟨l.length - 1, by omega⟩
  have e : (l.getD (least l) default) = l[least l]'hl := by simp [List.getD, hl]
  have e2 : (l.eraseIdx (least l)).length = n := by rw [List.length_eraseIdx_of_lt hl]; omega
  have h1 : evict room size l.length floor l = evict room size (n + 1) floor l := by rw [hn]
  rw [h1, evict, if_pos h, e, e2]
theorem evict_stop {room size floor : Int} {l : List DItem} {f : Nat} (h : ¬ (room < sizes l + size ∨ l.length = 40)) : evict room size f floor l = (floor, l, []) := by
  cases f with
  | zero => rfl
  | succ f => rw [evict, if_neg h]
abbrev at_ (l : List DItem) (key : Int) : Int := idxF (fun x : DItem => (x.key == key)) l
theorem at_lt (l : List DItem) (key : Int) : at_ l key < l.length ∧ -1 ≤ at_ l key := idxF_lt _ _
theorem at_neg {l : List DItem} {key : Int} (hn : ∀ j (h : j < l.length), l[j].key ≠ key) : at_ l key < 0 := by
  have e := idxF_none (f := fun f : DItem => (f.key == key)) (l := l) (fun j h => by simpa using hn j h)
  have e2 : at_ l key = -1 := e.symm
  omega
theorem at_neg' {l : List DItem} {key : Int} : at_ l key < 0 ↔ ∀ x ∈ l, x.key ≠ key := by
  constructor
  · intro h x hx hk
    rcases idxF_cases (fun x : DItem => (x.key == key)) l with ⟨k, _, e, _⟩ | ⟨_, h2⟩
    · unfold at_ at h; omega
    · have := h2 x hx; simp [hk] at this
  · intro h; exact at_neg fun j hj => h _ (List.getElem_mem hj)
theorem at_found {l : List DItem} {key : Int} {i : Nat} (hl : i < l.length) (hk : l[i].key = key) (hn : ∀ j (h : j < l.length), j < i → l[j].key ≠ key) : at_ l key = i :=
  (idxF_found (f := fun f : DItem => (f.key == key)) hl (by simpa using hk) (fun j h h2 => by simpa using hn j h h2)).symm
theorem touch_hit {h : DGreedy} {t : DItem} (hh : 0 ≤ at_ h.things t.key) : touch h t = (⟨h.room, h.floor, h.things.set (at_ h.things t.key).toNat (put h.floor (h.things[(at_ h.things t.key).toNat]'(by have := at_lt h.things t.key; omega)))⟩, true, []) := by
  have hl : (at_ h.things t.key).toNat < h.things.length := by have := at_lt h.things t.key; omega
  unfold touch; rw [if_pos hh]; simp [List.getD, hl]
theorem touch_hit2 {h : DGreedy} {t : DItem} {i : Nat} (hl : i < h.things.length) (hk : h.things[i].key = t.key) (hn : ∀ j (h2 : j < h.things.length), j < i → h.things[j].key ≠ t.key) : touch h t = (⟨h.room, h.floor, h.things.set i (put h.floor h.things[i])⟩, true, []) := by
  have e := at_found hl hk hn
  rw [touch_hit (by omega)]; simp only [e, Int.toNat_natCast]
theorem touch_big {h : DGreedy} {t : DItem} (hh : at_ h.things t.key < 0) (hb : h.room < t.size) : touch h t = (h, false, []) := by
  unfold touch; rw [if_neg (by unfold at_ at hh; omega), if_pos hb]
theorem touch_new {h : DGreedy} {t : DItem} (hh : at_ h.things t.key < 0) (hb : t.size ≤ h.room) : touch h t = (⟨h.room, (evict h.room t.size h.things.length h.floor h.things).1, (evict h.room t.size h.things.length h.floor h.things).2.1 ++ [put (evict h.room t.size h.things.length h.floor h.things).1 t]⟩, false, (evict h.room t.size h.things.length h.floor h.things).2.2) := by
  unfold touch; rw [if_neg (by unfold at_ at hh; omega), if_neg (by omega)]
theorem touch_fit {h : DGreedy} {t : DItem} (hh : at_ h.things t.key < 0) (hb : t.size ≤ h.room) (hf : sizes h.things + t.size ≤ h.room) (hl : (h.things.length : Int) ≠ 40) : touch h t = (⟨h.room, h.floor, h.things ++ [put h.floor t]⟩, false, []) := by
  rw [touch_new hh hb, evict_stop (by omega)]
def less1 (h : DGreedy) (i : Nat) : DGreedy := ⟨h.room, (h.things.getD i default).worth, h.things.eraseIdx i⟩
theorem touch_rec {h : DGreedy} {t : DItem} (hh : at_ h.things t.key < 0) (hb : t.size ≤ h.room) (h0 : 0 < h.things.length) (hf : h.room < sizes h.things + t.size ∨ h.things.length = 40) :
    touch h t = ((touch (less1 h (least h.things)) t).1, false, (h.things.getD (least h.things) default).key :: (touch (less1 h (least h.things)) t).2.2) ∧ (touch (less1 h (least h.things)) t).2.1 = false := by
  have hl := least_lt h0
  have e : (h.things.getD (least h.things) default) = h.things[least h.things]'hl := by simp [List.getD, hl]
  have hh2 : at_ (less1 h (least h.things)).things t.key < 0 := by
    rw [at_neg'] at hh ⊢
    exact fun x hx => hh x (List.mem_of_mem_eraseIdx hx)
  rw [touch_new hh hb, touch_new hh2 hb, evict_step h0 hf]
  simp only [less1, e]
  exact ⟨by simp, trivial⟩
/-! ### what stays right -/
structure Fits (room floor : Int) (l : List DItem) : Prop where
  fl : 0 ≤ floor ∧ floor ≤ 1125899906842624
  len : l.length ≤ 40
  right : ∀ t ∈ l, Greedy.right t = true
  worth : ∀ t ∈ l, floor ≤ t.worth ∧ t.worth ≤ 1125899906842624
  once : (keysOf l).Nodup
theorem Ok.fits_ {h : DGreedy} (ho : Ok h) : Fits h.room h.floor h.things := ⟨ho.floor, ho.len, ho.right, ho.worth, ho.once⟩
theorem Fits.fine {room floor : Int} {l : List DItem} (h : Fits room floor l) : Fine l := ⟨by have := h.len; omega, h.right⟩
theorem Fits.erase {room floor : Int} {l : List DItem} (h : Fits room floor l) (h0 : 0 < l.length) : Fits room (l[least l]'(least_lt h0)).worth (l.eraseIdx (least l)) := by
  have hl := least_lt h0
  have hw := h.worth _ (List.getElem_mem hl)
  have hf := h.fl
  refine ⟨by omega, by have := h.len; rw [List.length_eraseIdx_of_lt hl]; omega, fun t ht => h.right t (List.mem_of_mem_eraseIdx ht), fun t ht => ?_, ?_⟩
  · have hm := List.mem_of_mem_eraseIdx ht
    exact ⟨least_min h0 t hm, (h.worth t hm).2⟩
  · exact h.once.sublist ((List.eraseIdx_sublist l _).map _)
theorem fresh_bd {floor : Int} {t : DItem} (hf : 0 ≤ floor ∧ floor ≤ 1125899906842624) (ht : right t = true) : floor ≤ fresh floor t ∧ fresh floor t ≤ 1125899906842624 := by
  have := right_ok ht
  have h1 : 0 ≤ (1024 * t.cost).tdiv t.size := Int.tdiv_nonneg (by omega) (by omega)
  unfold fresh; omega
theorem put_right {floor : Int} {t : DItem} (ht : right t = true) : right (put floor t) = true := ht
theorem sizes_set : ∀ {l : List DItem} {i : Nat} (h : i < l.length) (x : DItem), sizes (l.set i x) + l[i].size = sizes l + x.size
  | t :: l, 0, _, x => by simp [sizes]; omega
  | t :: l, i + 1, h, x => by
    have := sizes_set (l := l) (i := i) (by simpa using h) x
    simp only [List.set_cons_succ, sizes, List.getElem_cons_succ]; omega
theorem keys_set {l : List DItem} {i : Nat} (h : i < l.length) {x : DItem} (hx : x.key = l[i].key) : keysOf (l.set i x) = keysOf l := by
  unfold keysOf; rw [List.map_set, hx]
  apply List.ext_getElem (by simp)
  intro j h1 h2
  rw [List.getElem_set]; split
  · subst_vars; simp
  · rfl
/-- What is left once all that has to go went. -/
theorem evict_ok {room size : Int} (hs : size ≤ room) (hs1 : 1 ≤ size) : ∀ (n : Nat) (floor : Int) (l : List DItem), l.length = n → Fits room floor l →
    Fits room (evict room size n floor l).1 (evict room size n floor l).2.1 ∧ sizes (evict room size n floor l).2.1 + size ≤ room ∧ (evict room size n floor l).2.1.length < 40 ∧ floor ≤ (evict room size n floor l).1 ∧ (∀ t ∈ (evict room size n floor l).2.1, t ∈ l)
  | 0, floor, l, hn, h => by
    have : l = [] := List.length_eq_zero_iff.1 hn
    subst this
    exact ⟨h, by simp [evict, sizes]; omega, by simp [evict], Int.le_refl _, fun t ht => ht⟩
  | n + 1, floor, l, hn, h => by
    by_cases hc : room < sizes l + size ∨ l.length = 40
    · have h0 : 0 < l.length := by omega
      have hl := least_lt h0
      have e : (l.eraseIdx (least l)).length = n := by rw [List.length_eraseIdx_of_lt hl]; omega
      have e2 := evict_step (room := room) (size := size) (floor := floor) h0 hc
      rw [hn, e] at e2
      rw [e2]
      obtain ⟨a, b, c, d, f⟩ := evict_ok hs hs1 n (l[least l]'hl).worth (l.eraseIdx (least l)) e (h.erase h0)
      have hw := h.worth _ (List.getElem_mem hl)
      exact ⟨a, b, c, by simp only; omega, fun t ht => List.mem_of_mem_eraseIdx (f t ht)⟩
    · rw [evict_stop hc]
      have := h.len
      exact ⟨h, by simp only; omega, by simp only; omega, Int.le_refl _, fun t ht => ht⟩
theorem Ok.touch {h : DGreedy} {t : DItem} (ho : Ok h) (ht : Greedy.right t = true) : Ok (touch h t).1 ∧ h.floor ≤ (Greedy.touch h t).1.floor ∧ (Greedy.touch h t).1.room = h.room := by
  by_cases hh : at_ h.things t.key < 0
  · by_cases hb : t.size ≤ h.room
    · rw [touch_new hh hb]
      have hr := right_ok ht
      obtain ⟨a, b, c, d, f⟩ := evict_ok hb hr.2.1.1 _ h.floor h.things rfl ho.fits_
      have fb := fresh_bd a.fl ht
      refine ⟨⟨ho.room, a.fl, by simp only [List.length_append, List.length_singleton]; omega, ?_, ?_, ?_, ?_⟩, d, rfl⟩
      · intro u hu; rcases List.mem_append.1 hu with hu | hu
        · exact a.right u hu
        · rw [List.mem_singleton.1 hu]; exact put_right ht
      · intro u hu; rcases List.mem_append.1 hu with hu | hu
        · exact a.worth u hu
        · rw [List.mem_singleton.1 hu]; exact fb
      · show (keysOf (_ ++ _)).Nodup
        unfold keysOf; rw [List.map_append, List.nodup_append]
        refine ⟨a.once, by simp, fun x hx y hy => ?_⟩
        obtain ⟨u, hu, rfl⟩ := List.mem_map.1 hx
        simp at hy; subst hy
        exact at_neg'.1 hh u (f u hu)
      · simp only [sizes_append, sizes, put]; omega
    · rw [touch_big hh (by omega)]; exact ⟨ho, Int.le_refl _, rfl⟩
  · have hh' : 0 ≤ at_ h.things t.key := by omega
    rw [touch_hit hh']
    have hl : (at_ h.things t.key).toNat < h.things.length := by have := at_lt h.things t.key; omega
    have hm := List.getElem_mem hl
    have fb := fresh_bd ho.floor (ho.right _ hm)
    refine ⟨⟨ho.room, ho.floor, by simpa using ho.len, ?_, ?_, ?_, ?_⟩, Int.le_refl _, rfl⟩
    · intro u hu; rcases List.mem_or_eq_of_mem_set hu with hu | rfl
      · exact ho.right u hu
      · exact put_right (ho.right _ hm)
    · intro u hu; rcases List.mem_or_eq_of_mem_set hu with hu | rfl
      · exact ho.worth u hu
      · exact fb
    · simp only; rw [keys_set hl (by rfl)]; exact ho.once
    · have := sizes_set hl (put h.floor h.things[(at_ h.things t.key).toNat]); have := ho.fits
      simp only [put] at *; omega
end Go.Sx.Greedy
