/- LFU: what LfuVictim, LfuCounts and LfuParts ask. -/
import Derived.Test.YtagbihjkdejdjaaLfLaw4
import Derived.Test.YtagbihjkdejdjaaDpLaw
namespace Go.Sx.Lfu
theorem touch_gone {u : DUses} (ho : Ok u) (key : Int) : (touch u key).2.2 = -1 ∨ ((touch u key).2.1 = false ∧ ∃ i, ∃ h : i < u.list.length, (touch u key).2.2 = u.list[i].key ∧ ∀ y ∈ u.list, u.list[i].count ≤ y.count) := by
  by_cases h0 : 0 ≤ at_ u.list key
  · obtain ⟨h1, _⟩ := at_pos h0; rw [touch_hit h0 h1]; exact .inl rfl
  · by_cases hf : (u.list.length : Int) = u.room
    · have hpos : 0 < u.list.length := by have := ho.room; omega
      have hll := least_lt hpos
      rw [touch_full (by omega) hf hll]
      exact .inr ⟨rfl, _, hll, rfl, least_min hpos⟩
    · rw [touch_add (by omega) hf]; exact .inl rfl
theorem key_pos {u : DUses} (ho : Ok u) {y : DUse} (hy : y ∈ u.list) : 0 ≤ y.key := by
  have := ho.key y hy; simp [Lru.okKey] at this; omega
theorem mem_eraseIdx_key {u : DUses} (ho : Ok u) {i : Nat} (hi : i < u.list.length) {y : DUse} (hy : y ∈ u.list) : (∃ x ∈ u.list.eraseIdx i, x.key = y.key) ↔ y.key ≠ u.list[i].key := by
  constructor
  · rintro ⟨x, hx, e⟩ h; exact not_mem_erase ho.once hi x hx (by rw [e, h])
  · intro h
    refine ⟨y, ?_, rfl⟩
    obtain ⟨j, hj, rfl⟩ := List.getElem_of_mem hy
    rw [List.mem_eraseIdx_iff_getElem]
    exact ⟨j, hj, by rintro rfl; exact h rfl, rfl⟩
theorem touch_keys {u : DUses} (ho : Ok u) (key : Int) {y : DUse} (hy : y ∈ u.list) : (∃ x ∈ (touch u key).1.list, x.key = y.key) ↔ y.key ≠ (touch u key).2.2 := by
  have hp := key_pos ho hy
  by_cases h0 : 0 ≤ at_ u.list key
  · obtain ⟨h1, h2⟩ := at_pos h0
    rw [touch_hit h0 h1]
    have h3 := mem_eraseIdx_key ho h1 hy
    refine ⟨fun _ => by show y.key ≠ -1; omega, fun _ => ?_⟩
    by_cases e : y.key = (u.list[(at_ u.list key).toNat]).key
    · exact ⟨_, List.mem_cons_self, e.symm⟩
    · obtain ⟨x, hx, e2⟩ := h3.2 e
      exact ⟨x, List.mem_cons_of_mem _ hx, e2⟩
  · have hno := at_neg.1 (show at_ u.list key < 0 by omega) y hy
    by_cases hf : (u.list.length : Int) = u.room
    · have hpos : 0 < u.list.length := by have := ho.room; omega
      have hll := least_lt hpos
      rw [touch_full (by omega) hf hll]
      have h3 := mem_eraseIdx_key ho hll hy
      show _ ↔ y.key ≠ (u.list[least u.list]).key
      rw [← h3]
      constructor
      · rintro ⟨x, hx, e⟩
        rcases List.mem_cons.1 hx with rfl | hx
        · exact absurd e.symm hno
        · exact ⟨x, hx, e⟩
      · rintro ⟨x, hx, e⟩; exact ⟨x, List.mem_cons_of_mem _ hx, e⟩
    · rw [touch_add (by omega) hf]
      exact ⟨fun _ => by show y.key ≠ -1; omega, fun _ => ⟨y, List.mem_cons_of_mem _ hy, rfl⟩⟩
theorem touch_head {u : DUses} (ho : Ok u) (key : Int) : 0 < (touch u key).1.list.length ∧ ∀ h : 0 < (touch u key).1.list.length, ((touch u key).1.list[0]).key = key := by
  by_cases h0 : 0 ≤ at_ u.list key
  · obtain ⟨h1, h2⟩ := at_pos h0
    rw [touch_hit h0 h1]; exact ⟨by simp, fun _ => h2⟩
  · by_cases hf : (u.list.length : Int) = u.room
    · rw [touch_full (by omega) hf (least_lt (by have := ho.room; omega))]; exact ⟨by simp, fun _ => rfl⟩
    · rw [touch_add (by omega) hf]; exact ⟨by simp, fun _ => rfl⟩
/- LfuVictim -/
structure VInv (u : DUses) (gone count : Int) (there : Bool) (i : Nat) : Prop where
  le : i ≤ u.list.length
  no : there = false → ∀ j (h : j < u.list.length), j < i → u.list[j].key ≠ gone
  yes : there = true → ∃ j, ∃ h : j < u.list.length, u.list[j].key = gone ∧ count = u.list[j].count
theorem VInv.start (u : DUses) (gone : Int) : VInv u gone 0 false 0 := ⟨Nat.zero_le _, fun _ j _ h => absurd h (Nat.not_lt_zero _), fun h => by cases h⟩
theorem VInv.found {u : DUses} {gone count : Int} {there : Bool} {i : Nat} (h : VInv u gone count there i) (hi : i < u.list.length) (hk : u.list[i].key = gone) : VInv u gone u.list[i].count true (i + 1) :=
  ⟨by omega, fun h => (by cases h), fun _ => ⟨i, hi, hk, rfl⟩⟩
theorem VInv.skip {u : DUses} {gone count : Int} {there : Bool} {i : Nat} (h : VInv u gone count there i) (hi : i < u.list.length) (hk : u.list[i].key ≠ gone) : VInv u gone count there (i + 1) :=
  ⟨by omega, fun ht j hj hlt => (by
    by_cases e : j = i
    · subst e; exact hk
    · exact h.no ht j hj (by omega)), h.yes⟩
theorem nodup_inj {l : List Int} (h : l.Nodup) {i j : Nat} (hi : i < l.length) (hj : j < l.length) (e : l[i] = l[j]) : i = j := by
  rw [← List.Nodup.idxOf_getElem h i hi, ← List.Nodup.idxOf_getElem h j hj, e]
theorem cap_small {n : Nat} (h : n ≤ 200) : cap (n : Int) = (n : Int) + 1 := Int.min_eq_left (by omega)
theorem v_ok {u : DUses} {key : Int} (e : accessErr u key = 0) : Ok u ∧ access u key = touch u key := by
  obtain ⟨a, b, d⟩ := acc_ok e; exact ⟨ok_of a, d⟩
theorem v_least {u : DUses} {key count : Int} {i j : Nat} (e : accessErr u key = 0) (h : VInv u (access u key).2.2 count true i) (hj : j < u.list.length) (hlt : u.list[j].count < count) : False := by
  obtain ⟨ho, ha⟩ := v_ok e
  obtain ⟨k, hk, h1, h2⟩ := h.yes rfl
  rw [ha] at h1
  rcases touch_gone ho key with h3 | ⟨_, m, hm, h3, h4⟩
  · have := key_pos ho (List.getElem_mem hk); omega
  · have e2 : k = m := by
      have hn := ho.once
      have h5 : (keysOf u.list)[k]'(by simpa [keysOf] using hk) = (keysOf u.list)[m]'(by simpa [keysOf] using hm) := by simp only [keysOf, List.getElem_map]; rw [h1, h3]
      exact nodup_inj hn (by simpa [keysOf] using hk) (by simpa [keysOf] using hm) h5
    subst e2
    have := h4 _ (List.getElem_mem hj); omega
/-- is the key among the first k? -/
def inTo (l : List DUse) (key : Int) (k : Nat) : Bool := (l.take k).any fun x => x.key == key
theorem inTo_next {l : List DUse} {key : Int} {k : Nat} (hk : k < l.length) : inTo l key (k + 1) = (inTo l key k || (l[k].key == key)) := by
  rw [inTo, inTo, List.take_succ_eq_append_getElem hk, List.any_append]; simp
theorem inTo_all {l : List DUse} {key : Int} {k : Nat} (hk : l.length ≤ k) : inTo l key k = l.any fun x => x.key == key := by rw [inTo, List.take_of_length_le hk]
theorem v_in {u : DUses} {key : Int} {i k : Nat} {b : Bool} (e : accessErr u key = 0) (hi : i < u.list.length) (hk : ((access u key).1.list.length : Int) ≤ k) (hb : b = inTo (access u key).1.list u.list[i].key k) (h : (b == (u.list[i].key == (access u key).2.2)) = true) : False := by
  obtain ⟨ho, ha⟩ := v_ok e
  have h1 := touch_keys ho key (List.getElem_mem hi)
  rw [ha] at hk hb h
  rw [inTo_all (by omega)] at hb
  have h2 : b = true ↔ ∃ x ∈ (touch u key).1.list, x.key = u.list[i].key := by rw [hb, List.any_eq_true]; simp
  rw [← h2] at h1
  cases b <;> simp_all
theorem v_end {u : DUses} {key count : Int} {there : Bool} {i : Nat} (e : accessErr u key = 0) (h : VInv u (access u key).2.2 count there i) (hi : (u.list.length : Int) ≤ i) :
    there = decide (0 ≤ (access u key).2.2) ∧ ((access u key).2.1 = false ∨ (access u key).2.2 = -1) ∧ check (access u key).1 = 0 ∧ 0 < (access u key).1.list.length ∧ ∀ h : 0 < (access u key).1.list.length, ((access u key).1.list[0]).key = key := by
  obtain ⟨ho, ha⟩ := v_ok e
  obtain ⟨_, hk, _⟩ := acc_ok e
  have hg := touch_gone ho key
  have hc : check (touch u key).1 = 0 := check_ok.2 (ho.touch hk)
  obtain ⟨hh1, hh2⟩ := touch_head ho key
  rw [ha] at h; rw [ha]
  refine ⟨?_, hg.symm.imp (fun h => h.1) id, hc, hh1, hh2⟩
  cases there
  · have h1 := h.no rfl
    symm; apply decide_eq_false
    rcases hg with h3 | ⟨_, m, hm, h3, _⟩
    · omega
    · exact absurd h3.symm (h1 m hm (by omega))
  · obtain ⟨k, hk, h1, _⟩ := h.yes rfl
    symm; apply decide_eq_true
    have := key_pos ho (List.getElem_mem hk); omega
/- LfuCounts -/
open Go.Sx.Deep (uniq uniq_all uniq_snoc snoc_ind)
theorem cnt_le (l : List Int) (k : Int) : l.count k ≤ l.length := List.count_le_length
theorem counts_go {room : Int} (hr : 1 ≤ room ∧ room ≤ 40) (l : List Int) : l.length ≤ 200 → (∀ k ∈ l, Lru.okKey k = true) → ((uniq l).length : Int) ≤ room →
    (∀ x ∈ (runGo ⟨room, []⟩ 0 l).1.list, x.count = (l.count x.key : Nat)) ∧ (∀ k, k ∈ keysOf (runGo ⟨room, []⟩ 0 l).1.list ↔ k ∈ l) ∧ (runGo ⟨room, []⟩ 0 l).1.list.length = (uniq l).length ∧ (runGo ⟨room, []⟩ 0 l).2 = (l.length : Int) - (uniq l).length := by
  induction l using snoc_ind with
  | h0 => intro _ _ _; refine ⟨?_, ?_, rfl, rfl⟩ <;> simp [runGo, keysOf]
  | h1 l k ih =>
    intro h200 hkeys hu
    have hlen : (l ++ [k]).length = l.length + 1 := by simp
    have hk : ∀ x ∈ l, Lru.okKey x = true := fun x hx => hkeys x (by simp [hx])
    have hu0 : (uniq l).length ≤ (uniq (l ++ [k])).length := by rw [uniq_snoc]; split <;> simp
    obtain ⟨i1, i2, i3, i4⟩ := ih (by omega) hk (by omega)
    have hok : Ok (runGo ⟨room, []⟩ 0 l).1 := Ok.runGo ⟨hr, by simp; omega, by simp, List.nodup_nil, by simp⟩ hk
    have hroom : (runGo ⟨room, []⟩ 0 l).1.room = room := runGo_room
    rw [runGo_append]
    generalize hc : (runGo ⟨room, []⟩ 0 l).1 = c at *
    generalize hn : (runGo ⟨room, []⟩ 0 l).2 = n at *
    simp only [runGo]
    have hmem : k ∈ l ↔ k ∈ uniq l := ((uniq_all l).2 k).symm
    by_cases h0 : 0 ≤ at_ c.list k
    · obtain ⟨h1, h2⟩ := at_pos h0
      have hkl : k ∈ l := (i2 k).1 (by rw [keysOf, List.mem_map]; exact ⟨_, List.getElem_mem h1, h2⟩)
      rw [touch_hit h0 h1]
      have e1 : uniq (l ++ [k]) = uniq l := by rw [uniq_snoc, if_pos (hmem.1 hkl)]
      have hcnt := i1 _ (List.getElem_mem h1)
      rw [h2] at hcnt
      have hcl := cnt_le l k
      refine ⟨?_, ?_, ?_, ?_⟩
      · intro x hx
        rcases List.mem_cons.1 hx with rfl | hx
        · show cap _ = _
          rw [hcnt, h2, List.count_append, List.count_singleton_self, cap_small (by omega)]; rfl
        · rw [i1 x (List.mem_of_mem_eraseIdx hx), List.count_append]
          have : x.key ≠ k := by rw [← h2]; exact not_mem_erase hok.once h1 x hx
          rw [List.count_singleton]; simp [Ne.symm this]
      · intro j
        constructor
        · intro hj
          rw [keysOf, List.map_cons, List.mem_cons] at hj
          rcases hj with rfl | hj
          · rw [h2]; simp
          · rw [List.mem_map] at hj
            obtain ⟨x, hx, rfl⟩ := hj
            exact List.mem_append_left _ ((i2 _).1 (List.mem_map_of_mem (List.mem_of_mem_eraseIdx hx)))
        · intro hj
          rw [keysOf, List.map_cons, List.mem_cons, List.mem_map]
          by_cases e : j = k
          · left; rw [h2]; exact e
          · right
            have hj2 : j ∈ l := by rcases List.mem_append.1 hj with h | h; exact h; exact absurd (List.mem_singleton.1 h) e
            obtain ⟨y, hy, hy2⟩ := List.mem_map.1 ((i2 j).2 hj2)
            have hy3 := (mem_eraseIdx_key hok h1 hy).2 (by rw [h2, hy2]; exact e)
            obtain ⟨x, hx, hx2⟩ := hy3
            exact ⟨x, hx, by rw [hx2, hy2]⟩
      · rw [e1, ← i3, List.length_cons, List.length_eraseIdx_of_lt h1]; omega
      · rw [e1, hlen]; simp only [if_true]; omega
    · have hkl : k ∉ l := fun h => by
        obtain ⟨y, hy, e⟩ := List.mem_map.1 ((i2 k).2 h)
        exact at_neg.1 (show at_ c.list k < 0 by omega) y hy e
      have e1 : uniq (l ++ [k]) = uniq l ++ [k] := by rw [uniq_snoc, if_neg (fun h => hkl (hmem.2 h))]
      have e2 : (uniq (l ++ [k])).length = (uniq l).length + 1 := by rw [e1, List.length_append]; rfl
      rw [touch_add (by omega) (by rw [hroom]; omega)]
      refine ⟨?_, ?_, ?_, ?_⟩
      · intro x hx
        rcases List.mem_cons.1 hx with rfl | hx
        · show (1 : Int) = ((l ++ [k]).count k : Nat)
          rw [List.count_append, List.count_singleton_self, List.count_eq_zero.2 hkl]; rfl
        · rw [i1 x hx, List.count_append]
          have : x.key ≠ k := at_neg.1 (show at_ c.list k < 0 by omega) x hx
          rw [List.count_singleton]; simp [Ne.symm this]
      · intro j
        show j ∈ k :: keysOf c.list ↔ _
        rw [List.mem_cons, i2, List.mem_append, List.mem_singleton]; exact Or.comm
      · rw [e2, ← i3]; rfl
      · rw [e2, hlen]; simp only [Bool.false_eq_true, if_false]; omega
theorem counts {room : Int} {l : List Int} (h : runErr ⟨room, []⟩ l = 0) (hu : ((uniq l).length : Int) ≤ room) :
    (∀ x ∈ (run ⟨room, []⟩ l).1.list, x.count = (l.count x.key : Nat)) ∧ (run ⟨room, []⟩ l).1.list.length = (uniq l).length ∧ (run ⟨room, []⟩ l).2 = (l.length : Int) - (uniq l).length := by
  obtain ⟨a, b, d⟩ := run_ok h
  have hb := Lru.trace_ok.1 b
  obtain ⟨h1, _, h3, h4⟩ := counts_go (ok_of a).room l hb.1 hb.2 hu
  rw [d]; exact ⟨h1, h3, h4⟩
theorem count_next {l : List Int} {k : Nat} (hk : k < l.length) (key : Int) : ((l.take (k + 1)).count key : Int) = (l.take k).count key + (if l[k] = key then 1 else 0) := by
  rw [List.take_succ_eq_append_getElem hk, List.count_append, List.count_singleton]
  by_cases e : l[k] = key <;> simp [e]
theorem count_bd {l : List Int} {k : Nat} {key many : Int} (h : many = ((l.take k).count key : Nat)) : 0 ≤ many ∧ many ≤ k := by
  have := cnt_le (l.take k) key; rw [List.length_take] at this; omega
theorem c_count {room : Int} {l : List Int} {i k : Nat} {many : Int} (h : runErr ⟨room, []⟩ l = 0) (hu : ((uniq l).length : Int) ≤ room) (hi : i < (run ⟨room, []⟩ l).1.list.length) (hm : many = ((l.take k).count ((run ⟨room, []⟩ l).1.list[i]).key : Nat)) (hk : (l.length : Int) ≤ k) : many = ((run ⟨room, []⟩ l).1.list[i]).count := by
  rw [hm, List.take_of_length_le (by omega), (counts h hu).1 _ (List.getElem_mem hi)]
/- LfuParts -/
theorem run_n (l : List Int) : ∀ (c : DUses), 0 ≤ (runGo c 0 l).2 ∧ (runGo c 0 l).2 ≤ l.length := by
  induction l with
  | nil => intro c; simp [runGo]
  | cons k l ih =>
    intro c; rw [runGo, runGo_add]
    have := ih (touch c k).1
    simp only [List.length_cons]; split <;> omega
theorem run_small {c : DUses} {l : List Int} (h : runErr c l = 0) : l.length ≤ 200 := (Lru.trace_ok.1 (run_ok h).2.1).1
theorem run_oks {c : DUses} {l : List Int} (h : runErr c l = 0) : Ok (run c l).1 := by
  obtain ⟨a, b, d⟩ := run_ok h
  rw [d]; exact (ok_of a).runGo (Lru.trace_ok.1 b).2
theorem parts_err {c : DUses} {l m : List Int} (h : runErr c l = 0) : runErr (run c l).1 m = runErr c (l ++ m) ∨ runErr c (l ++ m) = 2 := by
  obtain ⟨a, b, _⟩ := run_ok h
  have hb := Lru.trace_ok.1 b
  rw [runErr, if_pos (check_ok.2 (run_oks h)), runErr, if_pos a]
  by_cases h1 : 200 < (l ++ m).length
  · right; rw [Lru.trace, if_pos h1]
  · left
    rw [List.length_append] at h1
    rw [Lru.trace, Lru.trace, if_neg (show ¬ 200 < m.length by omega), if_neg (show ¬ 200 < (l ++ m).length by rw [List.length_append]; omega), List.any_append]
    have : l.any (fun k => !Lru.okKey k) = false := by rw [List.any_eq_false]; intro x hx; simp [hb.2 x hx]
    rw [this, Bool.false_or]
theorem parts_ok {c : DUses} {l m : List Int} (h : runErr c l = 0) (h2 : runErr (run c l).1 m = 0) (h3 : runErr c (l ++ m) = 0) :
    (run (run c l).1 m).1 = (run c (l ++ m)).1 ∧ (run c (l ++ m)).2 = (run c l).2 + (run (run c l).1 m).2 := by
  obtain ⟨_, _, d⟩ := run_ok h
  obtain ⟨_, _, d2⟩ := run_ok h2
  obtain ⟨_, _, d3⟩ := run_ok h3
  rw [d2, d3, d, runGo_append, runGo_add (n := (runGo c 0 l).2)]; exact ⟨rfl, rfl⟩
theorem parts_bool2 {c : DUses} {l m : List Int} (h : runErr c l = 0) : (runErr (run c l).1 m == runErr c ([] ++ l ++ m) || runErr c ([] ++ l ++ m) == 2) = true := by
  rcases parts_err (m := m) h with e | e <;> simp [e]
theorem parts_bool3 {c : DUses} {l : List Int} (h : runErr c l ≠ 0) : ((run c l).2 == 0 && (((run c l).1.list.length : Int) == 0)) = true := by rw [run_bad h]; rfl
theorem age_get {c : DUses} (h : Ok c) : (age c).list.length = c.list.length ∧ ∀ i (h1 : i < (age c).list.length) (h2 : i < c.list.length), ((age c).list[i]).key = (c.list[i]).key ∧ ((age c).list[i]).count ≤ (c.list[i]).count := by
  have e : age c = ⟨c.room, c.list.map old⟩ := if_pos (check_ok.2 h)
  rw [e]
  refine ⟨by simp, fun i h1 h2 => ?_⟩
  simp only [List.getElem_map]
  have := h.count _ (List.getElem_mem h2)
  refine ⟨rfl, ?_⟩
  show max 1 ((c.list[i]).count.tdiv 2) ≤ (c.list[i]).count
  have h3 : (c.list[i]).count.tdiv 2 = (c.list[i]).count / 2 := Int.tdiv_eq_ediv_of_nonneg (by omega)
  rw [h3]; omega
theorem part_age {c : DUses} {l m : List Int} (h2 : runErr (run c l).1 m = 0) : Ok (run (run c l).1 m).1 := run_oks h2
theorem parts_bool {c : DUses} {l m : List Int} (h : runErr c l = 0) (h2 : runErr (run c l).1 m = 0) (h3 : runErr c ([] ++ l ++ m) = 0) :
    (run (run c l).1 m).1 = (run c ([] ++ l ++ m)).1 ∧ (run c ([] ++ l ++ m)).2 = (run c l).2 + (run (run c l).1 m).2 ∧ check (run (run c l).1 m).1 = 0 ∧ 0 ≤ (run c l).2 ∧ (run c l).2 ≤ 200 ∧ 0 ≤ (run (run c l).1 m).2 ∧ (run (run c l).1 m).2 ≤ 200 := by
  have h4 := parts_ok h h2 h3
  have e1 := (run_ok h).2.2; have e2 := (run_ok h2).2.2
  have g1 := run_n l c; have g2 := run_n m (run c l).1
  have s1 := run_small h; have s2 := run_small h2
  refine ⟨h4.1, h4.2, check_ok.2 (run_oks h2), ?_, ?_, ?_, ?_⟩
  · rw [e1]; omega
  · rw [e1]; omega
  · rw [e2]; omega
  · rw [e2]; omega
end Go.Sx.Lfu
