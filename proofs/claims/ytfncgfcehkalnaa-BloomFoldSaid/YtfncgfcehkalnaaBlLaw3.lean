/- Bloom filters: what was added is found; unions and halves. -/
import Derived.Test.YtfncgfcehkalnaaBlLaw2
namespace Go.Sx.Bl
theorem places_same {f g : DFilter} (h1 : f.size = g.size) (h2 : f.hashes = g.hashes) (s : ByteArray) : places f s = places g s := by unfold places place; rw [h1, h2]
theorem may_iff {f : DFilter} {s : ByteArray} (h : keyErr f s = 0) : may f s = true ↔ ∀ x ∈ places f s, x ∈ f.set := by
  rw [may_ok h]
  simp only [Bool.not_eq_true', List.any_eq_false, Bool.not_eq_true', decide_eq_false_iff_not, Classical.not_not]
theorem may_add {f : DFilter} {s t : ByteArray} (h : keyErr f s = 0) (ht : keyErr f t = 0) (hm : may f t = true ∨ t = s) : keyErr (add f s) t = 0 ∧ may (add f s) t = true := by
  have hk := key_of (ok_add h) (key_ok ht).2
  refine ⟨hk, (may_iff hk).2 fun x hx => ?_⟩
  rw [places_same (g := f) (by rw [add_ok h]) (by rw [add_ok h])] at hx
  rw [add_ok h]
  show x ∈ once _
  rw [once_mem, List.mem_append]
  rcases hm with hm | rfl
  · exact .inl ((may_iff ht).1 hm x hx)
  · exact .inr hx
structure NF (l : List ByteArray) (ff : DFilter) (k : Nat) : Prop where
  le : k ≤ l.length
  ok : ∀ j, j < k → keyErr ff (l.getD j default) = 0 ∧ may ff (l.getD j default) = true
theorem NF.start (l : List ByteArray) (f : DFilter) : NF l f 0 := ⟨Nat.zero_le _, fun j h => absurd h (Nat.not_lt_zero j)⟩
theorem NF.next {l : List ByteArray} {ff : DFilter} {k : Nat} (h : NF l ff k) (hk : k < l.length) (he : keyErr ff (l.getD k default) = 0) : NF l (add ff (l.getD k default)) (k + 1) := by
  refine ⟨hk, fun j hj => ?_⟩
  rcases Nat.lt_or_ge j k with h1 | h1
  · exact may_add he (h.ok j h1).1 (.inl (h.ok j h1).2)
  · rw [show j = k by omega]; exact may_add he he (.inr rfl)
theorem same_bad {f : DFilter} {s : ByteArray} (h : keyErr f s ≠ 0) : decide (add f s = (⟨0, 0, []⟩ : DFilter)) = true := by rw [add_bad h]; rfl
theorem uni_bad {a b : DFilter} (h : uniErr a b ≠ 0) : decide (uni a b = (⟨0, 0, []⟩ : DFilter)) = true := by rw [show uni a b = zero from if_neg h]; rfl
theorem fold_bad {f : DFilter} (h : foldErr f ≠ 0) : decide (fold f = (⟨0, 0, []⟩ : DFilter)) = true := by rw [show fold f = zero from if_neg h]; rfl
theorem ok_uni {a b : DFilter} (h : uniErr a b = 0) : Ok (uni a b) := by
  obtain ⟨h1, h2, h3, h4, h5⟩ := uni_ok h
  rw [h5]
  refine ⟨h1.size, h1.hashes, once_up _, fun x hx => ?_⟩
  rcases List.mem_append.1 (once_mem.1 hx) with e | e
  · exact h1.bd x e
  · have := h2.bd x e; show 0 ≤ x ∧ x < a.size; rw [h3]; exact this
theorem key_eq {f g : DFilter} (hf : Ok f) (hg : Ok g) (s : ByteArray) : keyErr f s = keyErr g s := by
  rw [← ke2 (check_ok.2 hf), ← ke2 (check_ok.2 hg)]
theorem union1 {a b : DFilter} (h : uniErr a b = 0) (s t : ByteArray) : keyErr a s = keyErr (uni a b) s ∧ keyErr b t = keyErr (uni a b) t ∧ (may b t = true → may (uni a b) t = true) := by
  have hu := ok_uni h
  obtain ⟨h1, h2, h3, h4, h5⟩ := uni_ok h
  refine ⟨key_eq h1 hu s, key_eq h2 hu t, fun hm => ?_⟩
  by_cases hk : keyErr b t = 0
  · have hk2 : keyErr (uni a b) t = 0 := by rw [← key_eq h2 hu]; exact hk
    refine (may_iff hk2).2 fun x hx => ?_
    rw [places_same (g := b) (by rw [h5, h3]) (by rw [h5, h4])] at hx
    rw [h5]; show x ∈ once _; rw [once_mem, List.mem_append]
    exact .inr ((may_iff hk).1 hm x hx)
  · rw [may_bad hk] at hm; cases hm
theorem union2 {a b : DFilter} (h : uniErr a b = 0) {s : ByteArray} (hs : keyErr a s = 0) : uniErr (add a s) b = 0 ∧ uni (add a s) b = add (uni a b) s ∧ uniErr b (add a s) = 0 ∧ uni b (add a s) = add (uni a b) s := by
  have hu := ok_uni h
  obtain ⟨h1, h2, h3, h4, h5⟩ := uni_ok h
  have ha := ok_add hs
  have hsu : keyErr (uni a b) s = 0 := by rw [← key_eq h1 hu]; exact hs
  have es : (add a s).size = a.size := by rw [add_ok hs]
  have eh : (add a s).hashes = a.hashes := by rw [add_ok hs]
  have e1 := ue4 (check_ok.2 ha) (check_ok.2 h2) (by rw [es, eh]; exact ⟨h3, h4⟩)
  have e2 := ue4 (check_ok.2 h2) (check_ok.2 ha) (by rw [es, eh]; exact ⟨h3.symm, h4.symm⟩)
  have hp : places (uni a b) s = places a s := places_same (by rw [h5]) (by rw [h5]) s
  have hadd : add (uni a b) s = ⟨a.size, a.hashes, once (once (a.set ++ b.set) ++ places a s)⟩ := by rw [add_ok hsu, hp, h5]
  refine ⟨e1.2, ?_, e2.2, ?_⟩
  · rw [e1.1, hadd, es, eh, add_ok hs]
    congr 1
    refine up_eq (once_up _) (once_up _) fun x => ?_
    simp only [once_mem, List.mem_append]; grind
  · rw [e2.1, hadd, ← h3, ← h4, add_ok hs]
    congr 1
    refine up_eq (once_up _) (once_up _) fun x => ?_
    simp only [once_mem, List.mem_append]; grind
theorem fold_ok {f : DFilter} (h : foldErr f = 0) : Ok f ∧ f.size.tmod 2 = 0 ∧ fold f = ⟨f.size / 2, f.hashes, once (f.set.map fun x => x.tdiv 2)⟩ := by
  have e := h
  unfold foldErr at h
  split at h
  · rename_i h1; exact absurd h h1
  · rename_i h1
    split at h
    · cases h
    · rename_i h2
      have ho := check_ok.1 (show check f = 0 by simpa using h1)
      refine ⟨ho, by simpa using h2, ?_⟩
      rw [show fold f = ⟨f.size.tdiv 2, f.hashes, once (f.set.map fun x => x.tdiv 2)⟩ from if_pos e, Int.tdiv_eq_ediv_of_nonneg (by have := ho.size; omega)]
theorem ok_fold {f : DFilter} (h : foldErr f = 0) : Ok (fold f) := by
  obtain ⟨ho, hm, e⟩ := fold_ok h
  have hs := ho.size
  have h1 : f.size.tmod 2 = f.size % 2 := Int.tmod_eq_emod_of_nonneg (by omega)
  rw [e]
  refine ⟨by show 1 ≤ f.size / 2 ∧ f.size / 2 ≤ 1024; omega, ho.hashes, once_up _, fun x hx => ?_⟩
  obtain ⟨y, hy, rfl⟩ := List.mem_map.1 (once_mem.1 hx)
  have := ho.bd y hy
  show 0 ≤ y.tdiv 2 ∧ y.tdiv 2 < f.size / 2
  rw [Int.tdiv_eq_ediv_of_nonneg this.1]; omega
theorem place_fold {f : DFilter} (h : foldErr f = 0) (s : ByteArray) (i : Int) : place (fold f) s i = (place f s i).tdiv 2 := by
  obtain ⟨ho, hm, e⟩ := fold_ok h
  have hs := ho.size
  have h1 : f.size.tmod 2 = f.size % 2 := Int.tmod_eq_emod_of_nonneg (by omega)
  have e1 := Hash.rawFold_eq (Hash.salted s (toU i)) f.size.toNat (by omega)
  have e2 := Hash.rawFold_eq (Hash.salted s (toU i)) (f.size / 2).toNat (by omega)
  rw [show ((f.size.toNat : Nat) : Int) = f.size by omega] at e1
  rw [show (((f.size / 2).toNat : Nat) : Int) = f.size / 2 by omega] at e2
  unfold place
  rw [show (fold f).size = f.size / 2 by rw [e], e1, e2, Int.tdiv_eq_ediv_of_nonneg (Int.natCast_nonneg _)]
  have h2 : f.size.toNat = (f.size / 2).toNat * 2 := by omega
  rw [h2]
  generalize (Hash.salted s (toU i)).toNat / 4294967296 = n
  generalize (f.size / 2).toNat = m
  rw [← Nat.mul_assoc]
  generalize n * m = q
  omega
theorem places_fold {f : DFilter} (h : foldErr f = 0) (s : ByteArray) (x : Int) : x ∈ places (fold f) s ↔ ∃ y ∈ places f s, y.tdiv 2 = x := by
  rw [places_mem]
  have eh : (fold f).hashes = f.hashes := by rw [(fold_ok h).2.2]
  rw [eh]
  constructor
  · rintro ⟨i, hi, rfl⟩; exact ⟨_, places_mem.2 ⟨i, hi, rfl⟩, (place_fold h s _).symm⟩
  · rintro ⟨y, hy, rfl⟩; obtain ⟨i, hi, rfl⟩ := places_mem.1 hy; exact ⟨i, hi, place_fold h s _⟩
theorem fold1 {f : DFilter} (h : foldErr f = 0) (s : ByteArray) : keyErr f s = keyErr (fold f) s ∧ (may f s = true → may (fold f) s = true) := by
  have ho := (fold_ok h).1
  refine ⟨key_eq ho (ok_fold h) s, fun hm => ?_⟩
  by_cases hk : keyErr f s = 0
  · have hk2 : keyErr (fold f) s = 0 := by rw [← key_eq ho (ok_fold h)]; exact hk
    refine (may_iff hk2).2 fun x hx => ?_
    obtain ⟨y, hy, rfl⟩ := (places_fold h s x).1 hx
    rw [(fold_ok h).2.2]; show _ ∈ once _; rw [once_mem, List.mem_map]
    exact ⟨y, (may_iff hk).1 hm y hy, rfl⟩
  · rw [may_bad hk] at hm; cases hm
theorem fold2 {f : DFilter} (h : foldErr f = 0) {t : ByteArray} (ht : keyErr f t = 0) : foldErr (add f t) = 0 ∧ fold (add f t) = add (fold f) t := by
  obtain ⟨ho, hm, e⟩ := fold_ok h
  have ha := ok_add ht
  have es : (add f t).size = f.size := by rw [add_ok ht]
  have eh : (add f t).hashes = f.hashes := by rw [add_ok ht]
  have e1 := fe3 (check_ok.2 ha) (by rw [es]; exact hm)
  have ht2 : keyErr (fold f) t = 0 := by rw [← key_eq ho (ok_fold h)]; exact ht
  refine ⟨e1.2, ?_⟩
  rw [e1.1, add_ok ht2, es, eh, show (fold f).size = f.size.tdiv 2 by rw [e, Int.tdiv_eq_ediv_of_nonneg (by have := ho.size; omega)], show (fold f).hashes = f.hashes by rw [e]]
  congr 1
  refine up_eq (once_up _) (once_up _) fun x => ?_
  rw [once_mem, once_mem, List.mem_append, List.mem_map, places_fold h, add_ok ht, e]
  show (∃ y ∈ once (f.set ++ places f t), y.tdiv 2 = x) ↔ x ∈ once _ ∨ _
  rw [once_mem, List.mem_map]
  constructor
  · rintro ⟨y, hy, rfl⟩
    rcases List.mem_append.1 (once_mem.1 hy) with q | q
    · exact .inl ⟨y, q, rfl⟩
    · exact .inr ⟨y, q, rfl⟩
  · rintro (⟨y, hy, rfl⟩ | ⟨y, hy, rfl⟩)
    · exact ⟨y, once_mem.2 (List.mem_append.2 (.inl hy)), rfl⟩
    · exact ⟨y, once_mem.2 (List.mem_append.2 (.inr hy)), rfl⟩
end Go.Sx.Bl
