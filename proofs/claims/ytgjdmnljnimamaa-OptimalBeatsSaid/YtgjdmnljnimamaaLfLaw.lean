/- Least frequently used: what a touch and a run do. -/
import Derived.Test.YtgjdmnljnimamaaLfPure
namespace Go.Sx.Lfu
open Lru (okKey trace_ok)
theorem at_lt (l : List DUse) (key : Int) : at_ l key < l.length ∧ -1 ≤ at_ l key := idxF_lt _ _
theorem at_pos {l : List DUse} {key : Int} (h : 0 ≤ at_ l key) : ∃ h' : (at_ l key).toNat < l.length, (l[(at_ l key).toNat]).key = key := by
  rcases idxF_cases (fun x : DUse => (x.key == key)) l with ⟨k, hk, e, h1, _⟩ | ⟨e, _⟩
  · have e2 : (at_ l key).toNat = k := by unfold at_; rw [e]; rfl
    simp only [e2]; exact ⟨hk, by simpa using h1⟩
  · unfold at_ at h; omega
theorem at_neg {l : List DUse} {key : Int} : at_ l key < 0 ↔ ∀ x ∈ l, x.key ≠ key := by
  constructor
  · intro h x hx hk
    rcases idxF_cases (fun x : DUse => (x.key == key)) l with ⟨k, _, e, _⟩ | ⟨_, h2⟩
    · unfold at_ at h; omega
    · have := h2 x hx; simp [hk] at this
  · intro h
    have e := idxF_none (f := fun f : DUse => (f.key == key)) (l := l) (fun j hj => by simpa using h _ (List.getElem_mem hj))
    have e2 : at_ l key = -1 := e.symm
    omega
theorem at_found {l : List DUse} {key : Int} {i : Nat} (hl : i < l.length) (hk : l[i].key = key) (hn : ∀ j (h : j < l.length), j < i → l[j].key ≠ key) : at_ l key = i :=
  (idxF_found (f := fun f : DUse => (f.key == key)) hl (by simpa using hk) (fun j h h2 => by simpa using hn j h h2)).symm
theorem leastTo_lt {l : List DUse} : ∀ k, k ≤ l.length → 0 < l.length → leastTo l k < l.length
  | 0, _, h => h
  | k + 1, hk, h => by
    rw [leastTo]; split
    · omega
    · exact leastTo_lt k (by omega) h
theorem least_lt {l : List DUse} (h : 0 < l.length) : least l < l.length := leastTo_lt _ (Nat.le_refl _) h
/-- the last of the least among the first k -/
theorem leastTo_min {l : List DUse} : ∀ k, k ≤ l.length → ∀ j (hj : j < l.length), j < k → (l.getD (leastTo l k) default).count ≤ l[j].count ∧ (j ≤ leastTo l k ∨ (l.getD (leastTo l k) default).count < l[j].count)
  | 0, _, _, _, h => absurd h (by omega)
  | k + 1, hk, j, hj, hjk => by
    rw [leastTo]
    have ih := leastTo_min (l := l) k (by omega) j hj
    have e : (l.getD k default) = l[k] := by simp [List.getD, show k < l.length by omega]
    split
    · rename_i h
      rw [e] at h ⊢
      by_cases hjk2 : j = k
      · subst hjk2; exact ⟨Int.le_refl _, .inl (Nat.le_refl _)⟩
      · have := ih (by omega); exact ⟨by omega, .inl (by omega)⟩
    · rename_i h
      by_cases hjk2 : j = k
      · subst hjk2
        rw [e] at h
        exact ⟨by omega, .inr (by omega)⟩
      · exact ih (by omega)
theorem least_get {l : List DUse} (h0 : 0 < l.length) : (l.getD (leastTo l l.length) default) = l[least l]'(least_lt h0) := by simp [least, List.getD, show leastTo l l.length < l.length from least_lt h0]
theorem least_min {l : List DUse} (h0 : 0 < l.length) : ∀ t ∈ l, (l[least l]'(least_lt h0)).count ≤ t.count := by
  intro t ht
  obtain ⟨j, hj, rfl⟩ := List.getElem_of_mem ht
  have := (leastTo_min l.length (Nat.le_refl _) j hj hj).1
  rw [least_get h0] at this; exact this
theorem least_last {l : List DUse} (h0 : 0 < l.length) {i : Nat} (hi : i < l.length) (h : ∀ t ∈ l, l[i].count ≤ t.count) (h2 : ∀ j (hj : j < l.length), i < j → ∃ t ∈ l, t.count < l[j].count) : i = least l := by
  have hl := least_lt h0
  rcases Nat.lt_trichotomy (least l) i with hlt | he | hgt
  · have h3 := leastTo_min l.length (Nat.le_refl _) i hi hi
    rw [least_get h0] at h3
    have := h _ (List.getElem_mem hl)
    unfold least at hlt; omega
  · exact he.symm
  · obtain ⟨t, ht, hw⟩ := h2 _ hl hgt
    have := least_min h0 t ht; omega
structure BInv (l : List DUse) (best : Int) (k : Nat) : Prop where
  le : k ≤ l.length
  eq : best = (leastTo l k : Int)
theorem BInv.start (l : List DUse) : BInv l 0 0 := ⟨Nat.zero_le _, rfl⟩
theorem BInv.bd {l : List DUse} {best : Int} {k : Nat} (h : BInv l best k) (hl : 0 < l.length) : 0 ≤ best ∧ best < l.length := by
  have := leastTo_lt (l := l) k h.le hl; rw [h.eq]; omega
theorem BInv.less {l : List DUse} {best : Int} {k : Nat} (h : BInv l best k) (hk : k < l.length) (hb : best.toNat < l.length) (hw : l[k].count ≤ l[best.toNat].count) : BInv l (k : Int) (k + 1) := by
  obtain ⟨h1, rfl⟩ := h
  simp only [Int.toNat_natCast] at hw hb
  exact ⟨hk, by rw [leastTo]; simp [List.getD, hk, hb, hw]⟩
theorem BInv.not {l : List DUse} {best : Int} {k : Nat} (h : BInv l best k) (hk : k < l.length) (hb : best.toNat < l.length) (hw : l[best.toNat].count < l[k].count) : BInv l best (k + 1) := by
  obtain ⟨h1, rfl⟩ := h
  simp only [Int.toNat_natCast] at hw hb
  exact ⟨hk, by rw [leastTo]; simp [List.getD, hk, hb, Int.not_le.2 hw]⟩
theorem BInv.done {l : List DUse} {best : Int} {k : Nat} (h : BInv l best k) (hk : (l.length : Int) ≤ k) : best = (least l : Int) := by
  have := h.le
  rw [h.eq, least, show k = l.length by omega]
/-! ### a touch -/
theorem touch_hit {u : DUses} {key : Int} (h : 0 ≤ at_ u.list key) (hl : (at_ u.list key).toNat < u.list.length) : touch u key = (⟨u.room, ⟨(u.list[(at_ u.list key).toNat]).key, cap (u.list[(at_ u.list key).toNat]).count⟩ :: u.list.eraseIdx (at_ u.list key).toNat⟩, true, -1) := by
  unfold touch; rw [if_pos h]; simp [List.getD, hl]
theorem touch_full {u : DUses} {key : Int} (h : at_ u.list key < 0) (hf : (u.list.length : Int) = u.room) (hl : least u.list < u.list.length) : touch u key = (⟨u.room, ⟨key, 1⟩ :: u.list.eraseIdx (least u.list)⟩, false, (u.list[least u.list]).key) := by
  unfold touch; rw [if_neg (by omega), if_pos hf]; simp [List.getD, hl]
theorem touch_add {u : DUses} {key : Int} (h : at_ u.list key < 0) (hf : (u.list.length : Int) ≠ u.room) : touch u key = (⟨u.room, ⟨key, 1⟩ :: u.list⟩, false, -1) := by
  unfold touch; rw [if_neg (by omega), if_neg hf]
theorem keys_erase (l : List DUse) (i : Nat) : keysOf (l.eraseIdx i) = (keysOf l).eraseIdx i := by
  unfold keysOf; induction l generalizing i with
  | nil => rfl
  | cons a l ih => cases i with
    | zero => rfl
    | succ i => simp [ih]
theorem not_mem_erase {l : List DUse} {i : Nat} (hn : (keysOf l).Nodup) (hi : i < l.length) : ∀ x ∈ l.eraseIdx i, x.key ≠ l[i].key := by
  intro x hx e
  obtain ⟨j, hj, hne, rfl⟩ := List.mem_eraseIdx_iff_getElem.1 hx
  have h1 := List.pairwise_iff_getElem.1 hn
  have hj' : j < (keysOf l).length := by simpa [keysOf] using hj
  have hi' : i < (keysOf l).length := by simpa [keysOf] using hi
  rcases Nat.lt_or_gt_of_ne hne with h | h
  · exact h1 j i hj' hi' h (by simpa [keysOf] using e)
  · exact h1 i j hi' hj' h (by simpa [keysOf] using e.symm)
theorem cap_bd {n : Int} (h : 0 ≤ n) : 1 ≤ cap n ∧ cap n ≤ 1099511627776 := by unfold cap; omega
theorem Ok.touch {u : DUses} (h : Ok u) {key : Int} (hk : okKey key = true) : Ok (touch u key).1 := by
  obtain ⟨a, b, c, d, e⟩ := h
  by_cases hh : at_ u.list key < 0
  · have hn := at_neg.1 hh
    by_cases hf : (u.list.length : Int) = u.room
    · have hl := least_lt (l := u.list) (by omega)
      rw [touch_full hh hf hl]
      have he := List.length_eraseIdx_of_lt hl
      refine ⟨a, by simp only [List.length_cons]; omega, ?_, ?_, ?_⟩
      · intro x hx; rcases List.mem_cons.1 hx with rfl | hx
        · exact hk
        · exact c x (List.mem_of_mem_eraseIdx hx)
      · refine List.nodup_cons.2 ⟨fun hm => ?_, ?_⟩
        · obtain ⟨x, hx, hxe⟩ := List.mem_map.1 hm
          exact hn x (List.mem_of_mem_eraseIdx hx) hxe
        · exact d.sublist ((List.eraseIdx_sublist _ _).map _)
      · intro x hx; rcases List.mem_cons.1 hx with rfl | hx
        · exact ⟨Int.le_refl 1, show (1 : Int) ≤ 1099511627776 by decide⟩
        · exact e x (List.mem_of_mem_eraseIdx hx)
    · rw [touch_add hh hf]
      refine ⟨a, by simp only [List.length_cons]; omega, ?_, ?_, ?_⟩
      · intro x hx; rcases List.mem_cons.1 hx with rfl | hx
        · exact hk
        · exact c x hx
      · refine List.nodup_cons.2 ⟨fun hm => ?_, d⟩
        obtain ⟨x, hx, hxe⟩ := List.mem_map.1 hm
        exact hn x hx hxe
      · intro x hx; rcases List.mem_cons.1 hx with rfl | hx
        · exact ⟨Int.le_refl 1, show (1 : Int) ≤ 1099511627776 by decide⟩
        · exact e x hx
  · obtain ⟨hl, hkey⟩ := at_pos (l := u.list) (key := key) (by omega)
    rw [touch_hit (by omega) hl]
    have hm := List.getElem_mem hl
    have he := List.length_eraseIdx_of_lt hl
    refine ⟨a, by simp only [List.length_cons]; omega, ?_, ?_, ?_⟩
    · intro x hx; rcases List.mem_cons.1 hx with rfl | hx
      · have h9 := c _ hm; exact h9
      · exact c x (List.mem_of_mem_eraseIdx hx)
    · refine List.nodup_cons.2 ⟨fun hm2 => ?_, d.sublist ((List.eraseIdx_sublist _ _).map _)⟩
      obtain ⟨x, hx, hxe⟩ := List.mem_map.1 hm2
      exact not_mem_erase d hl x hx hxe
    · intro x hx; rcases List.mem_cons.1 hx with rfl | hx
      · exact cap_bd (by have := e _ hm; omega)
      · exact e x (List.mem_of_mem_eraseIdx hx)
/-! ### access and run -/
theorem acc_cases (c : DUses) (key : Int) : (check c ≠ 0 ∧ access c key = (zero, false, 0) ∧ accessErr c key = check c) ∨ (check c = 0 ∧ Lru.okKey key = false ∧ access c key = (zero, false, 0) ∧ accessErr c key = 3) ∨ (check c = 0 ∧ Lru.okKey key = true ∧ access c key = touch c key ∧ accessErr c key = 0) := by
  by_cases hc : check c = 0
  · cases hr : Lru.okKey key
    · have e : accessErr c key = 3 := by unfold accessErr; rw [if_pos hc, if_neg (by simp [hr])]
      exact .inr (.inl ⟨hc, rfl, by unfold access; rw [e]; rfl, e⟩)
    · have e : accessErr c key = 0 := by unfold accessErr; rw [if_pos hc, if_pos hr]
      exact .inr (.inr ⟨hc, rfl, by unfold access; rw [if_pos e], e⟩)
  · have e : accessErr c key = check c := by unfold accessErr; rw [if_neg hc]
    exact .inl ⟨hc, by unfold access; rw [e, if_neg hc], e⟩
theorem acc_bad {c : DUses} {key : Int} (e : accessErr c key ≠ 0) : access c key = (zero, false, 0) := if_neg e
theorem acc_ok {c : DUses} {key : Int} (e : accessErr c key = 0) : check c = 0 ∧ Lru.okKey key = true ∧ access c key = touch c key := by
  rcases acc_cases c key with ⟨a, b, d⟩ | ⟨a, a2, b, d⟩ | ⟨a, a2, b, d⟩
  · exact absurd (d ▸ e) a
  · rw [d] at e; cases e
  · exact ⟨a, a2, b⟩
theorem run_cases (c : DUses) (l : List Int) : (check c ≠ 0 ∧ run c l = (zero, 0) ∧ runErr c l = check c) ∨ (check c = 0 ∧ Lru.trace l ≠ 0 ∧ run c l = (zero, 0) ∧ runErr c l = Lru.trace l) ∨ (check c = 0 ∧ Lru.trace l = 0 ∧ run c l = runGo c 0 l ∧ runErr c l = 0) := by
  by_cases h : check c = 0
  · have e : runErr c l = Lru.trace l := by unfold runErr; rw [if_pos h]
    by_cases h2 : Lru.trace l = 0
    · exact .inr (.inr ⟨h, h2, by unfold run; rw [if_pos (e.trans h2)], e.trans h2⟩)
    · exact .inr (.inl ⟨h, h2, by unfold run; rw [if_neg (by rw [e]; exact h2)], e⟩)
  · have e : runErr c l = check c := by unfold runErr; rw [if_neg h]
    exact .inl ⟨h, by unfold run; rw [if_neg (by rw [e]; exact h)], e⟩
theorem run_bad {c : DUses} {l : List Int} (e : runErr c l ≠ 0) : run c l = (zero, 0) := if_neg e
theorem run_ok {c : DUses} {l : List Int} (e : runErr c l = 0) : check c = 0 ∧ Lru.trace l = 0 ∧ run c l = runGo c 0 l := by
  rcases run_cases c l with ⟨a, b, d⟩ | ⟨a, a2, b, d⟩ | ⟨a, a2, b, d⟩
  · exact absurd (d ▸ e) a
  · exact absurd (d ▸ e) a2
  · exact ⟨a, a2, b⟩
structure RInv (c cc : DUses) (l : List Int) (n : Int) (k : Nat) : Prop where
  ok : Ok cc
  key : ∀ x ∈ l, Lru.okKey x = true
  n0 : 0 ≤ n
  n1 : n ≤ (k : Int)
  le : k ≤ l.length
  go : runGo cc n (l.drop k) = runGo c 0 l
theorem RInv.start {c : DUses} {l : List Int} (h : Ok c) (hk : ∀ x ∈ l, Lru.okKey x = true) : RInv c c l 0 0 := ⟨h, hk, Int.le_refl _, Int.le_refl _, Nat.zero_le _, rfl⟩
theorem RInv.start' {c : DUses} {l : List Int} (h : check c = 0) (hk : Lru.trace l = 0) : RInv c c l 0 0 := RInv.start (ok_of h) (Lru.trace_ok.1 hk).2
theorem RInv.hit {c cc : DUses} {l : List Int} {n : Int} {k : Nat} (h : RInv c cc l n k) (hk : k < l.length) (ht : (Lfu.touch cc l[k]).2.1 = true) : RInv c (Lfu.touch cc l[k]).1 l (n + 1) (k + 1) := by
  obtain ⟨g1, g0, g2, g3, g4, g5⟩ := h
  rw [List.drop_eq_getElem_cons hk, runGo, if_pos ht] at g5
  exact ⟨g1.touch (g0 _ (List.getElem_mem hk)), g0, by omega, by omega, hk, g5⟩
theorem RInv.miss {c cc : DUses} {l : List Int} {n : Int} {k : Nat} (h : RInv c cc l n k) (hk : k < l.length) (ht : (Lfu.touch cc l[k]).2.1 = false) : RInv c (Lfu.touch cc l[k]).1 l n (k + 1) := by
  obtain ⟨g1, g0, g2, g3, g4, g5⟩ := h
  rw [List.drop_eq_getElem_cons hk, runGo, if_neg (by simp [ht])] at g5
  exact ⟨g1.touch (g0 _ (List.getElem_mem hk)), g0, by omega, by omega, hk, g5⟩
theorem RInv.done {c cc : DUses} {l : List Int} {n : Int} {k : Nat} (h : RInv c cc l n k) (hk : (l.length : Int) ≤ k) : runGo c 0 l = (cc, n) := by
  rw [← h.go, List.drop_of_length_le (by omega)]; rfl
theorem Ok.runGo {l : List Int} : ∀ {c : DUses} {n : Int}, Ok c → (∀ x ∈ l, Lru.okKey x = true) → Ok (runGo c n l).1 := by
  induction l with
  | nil => intro c n h _; exact h
  | cons k l ih => intro c n h hk; exact ih (h.touch (hk k (by simp))) (fun x hx => hk x (by simp [hx]))
theorem runGo_append {l m : List Int} : ∀ {c : DUses} {n : Int}, Lfu.runGo c n (l ++ m) = Lfu.runGo (Lfu.runGo c n l).1 (Lfu.runGo c n l).2 m := by
  induction l with
  | nil => intro c n; rfl
  | cons k l ih => intro c n; rw [List.cons_append, Lfu.runGo, ih]; rfl
theorem runGo_add {l : List Int} : ∀ {c : DUses} {n : Int}, Lfu.runGo c n l = ((Lfu.runGo c 0 l).1, n + (Lfu.runGo c 0 l).2) := by
  induction l with
  | nil => intro c n; simp [Lfu.runGo]
  | cons k l ih =>
    intro c n
    rw [Lfu.runGo, ih, Lfu.runGo, ih (n := if (Lfu.touch c k).2.1 = true then 0 + 1 else 0)]
    split <;> simp <;> omega
theorem touch_room (c : DUses) (k : Int) : (Lfu.touch c k).1.room = c.room := by unfold Lfu.touch; split; rfl; split <;> rfl
theorem runGo_room {l : List Int} : ∀ {c : DUses} {n : Int}, (Lfu.runGo c n l).1.room = c.room := by
  induction l with
  | nil => intro c n; rfl
  | cons k l ih => intro c n; rw [Lfu.runGo, ih]; exact touch_room c k
end Go.Sx.Lfu
