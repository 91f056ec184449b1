/- Bloom filters: the loops of the program. -/
import Derived.Test.YtfncgfcehkalnaaBlPure
namespace Go.Sx.Bl
structure CkI (f : DFilter) (last : Int) (k : Nat) : Prop where
  le : k ≤ f.set.length
  eq : scan f.size last (f.set.drop k) = scan f.size (-1) f.set
theorem CkI.start (f : DFilter) : CkI f (-1) 0 := ⟨Nat.zero_le _, rfl⟩
theorem scan_step {f : DFilter} {last : Int} {k : Nat} (h : k < f.set.length) : scan f.size last (f.set.drop k) = if f.set[k] < 0 ∨ f.size ≤ f.set[k] then 3 else if f.set[k] ≤ last then 4 else scan f.size f.set[k] (f.set.drop (k + 1)) := by
  rw [List.drop_eq_getElem_cons h, scan]
theorem chk1 {f : DFilter} (h : ((f.size < 1 ∨ 1024 < f.size) ∨ f.hashes < 1) ∨ 8 < f.hashes) : 3 = check f := (if_pos h).symm
theorem chk2 {f : DFilter} (h : ((1 ≤ f.size ∧ f.size ≤ 1024) ∧ 1 ≤ f.hashes) ∧ f.hashes ≤ 8) (h2 : f.size < (f.set.length : Int)) : 2 = check f := by unfold check; rw [if_neg (by omega), if_pos h2]
theorem chk3 {f : DFilter} (h : ((1 ≤ f.size ∧ f.size ≤ 1024) ∧ 1 ≤ f.hashes) ∧ f.hashes ≤ 8) (h2 : (f.set.length : Int) ≤ f.size) {e : Int} (he : e = scan f.size (-1) f.set) : e = check f := by unfold check; rw [if_neg (by omega), if_neg (by omega)]; exact he
theorem CkI.bad {f : DFilter} {last : Int} {k : Nat} (h : CkI f last k) (hk : k < f.set.length) (hb : f.set[k] < 0 ∨ f.size ≤ f.set[k]) : 3 = scan f.size (-1) f.set := by rw [← h.eq, scan_step hk, if_pos hb]
theorem CkI.low {f : DFilter} {last : Int} {k : Nat} (h : CkI f last k) (hk : k < f.set.length) (hb : 0 ≤ f.set[k] ∧ f.set[k] < f.size) (hl : f.set[k] ≤ last) : 4 = scan f.size (-1) f.set := by rw [← h.eq, scan_step hk, if_neg (by omega), if_pos hl]
theorem CkI.next {f : DFilter} {last : Int} {k : Nat} (h : CkI f last k) (hk : k < f.set.length) (hb : 0 ≤ f.set[k] ∧ f.set[k] < f.size) (hl : last < f.set[k]) : CkI f f.set[k] (k + 1) := ⟨hk, by rw [← h.eq, scan_step hk, if_neg (by omega), if_neg (by omega)]⟩
theorem CkI.done {f : DFilter} {last : Int} {k : Nat} (h : CkI f last k) (hk : f.set.length ≤ k) : 0 = scan f.size (-1) f.set := by rw [← h.eq, List.drop_of_length_le hk]; rfl
theorem ke1 {f : DFilter} (s : ByteArray) (h : check f ≠ 0) : check f = keyErr f s := (if_pos h).symm
theorem ke2 {f : DFilter} {s : ByteArray} (h : check f = 0) : Hash.sumErr s = keyErr f s := (if_neg (by simp [h])).symm
theorem key_ok {f : DFilter} {s : ByteArray} (h : keyErr f s = 0) : Ok f ∧ s.size ≤ 40 := by
  unfold keyErr at h
  split at h
  · rename_i h1; exact absurd h h1
  · rename_i h1; exact ⟨check_ok.1 (by simpa using h1), (Hash.sum_of h).2⟩
theorem key_of {f : DFilter} {s : ByteArray} (h : Ok f) (hs : s.size ≤ 40) : keyErr f s = 0 := by
  unfold keyErr; rw [if_neg (by simp [check_ok.2 h])]; unfold Hash.sumErr; rw [if_neg (by omega)]
theorem places_len (f : DFilter) (s : ByteArray) : (places f s).length ≤ f.hashes.toNat := by
  refine Nat.le_trans (once_len _) ?_; simp
theorem place_bd {f : DFilter} (h : Ok f) (s : ByteArray) (i : Int) : 0 ≤ place f s i ∧ place f s i < f.size := by
  have hs := h.size
  have e := Hash.rawFold_eq (Hash.salted s (toU i)) f.size.toNat (by omega)
  rw [show ((f.size.toNat : Nat) : Int) = f.size by omega] at e
  unfold place; rw [e]
  have h1 : (Hash.salted s (toU i)).toNat / 4294967296 < 4294967296 := by have := (Hash.salted s (toU i)).toNat_lt; omega
  have h2 : (Hash.salted s (toU i)).toNat / 4294967296 * f.size.toNat / 4294967296 < f.size.toNat := by
    rw [Nat.div_lt_iff_lt_mul (by decide)]
    rw [Nat.mul_comm f.size.toNat]
    exact Nat.mul_lt_mul_of_pos_right h1 (by omega)
  omega
theorem places_mem {f : DFilter} {s : ByteArray} {x : Int} : x ∈ places f s ↔ ∃ i : Nat, (i : Int) < f.hashes ∧ place f s i = x := by
  unfold places
  rw [once_mem, List.mem_map]
  constructor
  · rintro ⟨i, hi, rfl⟩; have := List.mem_range.1 hi; exact ⟨i, by omega, rfl⟩
  · rintro ⟨i, hi, rfl⟩; exact ⟨i, List.mem_range.2 (by omega), rfl⟩
theorem places_bd {f : DFilter} (h : Ok f) {s : ByteArray} {x : Int} (hx : x ∈ places f s) : 0 ≤ x ∧ x < f.size := by
  obtain ⟨i, _, rfl⟩ := places_mem.1 hx; exact place_bd h s _
theorem add_ok {f : DFilter} {s : ByteArray} (h : keyErr f s = 0) : add f s = ⟨f.size, f.hashes, once (f.set ++ places f s)⟩ := if_pos h
theorem add_bad {f : DFilter} {s : ByteArray} (h : keyErr f s ≠ 0) : add f s = zero := if_neg h
theorem bits_ok {f : DFilter} {s : ByteArray} (h : keyErr f s = 0) : bits f s = places f s := if_pos h
theorem bits_bad {f : DFilter} {s : ByteArray} (h : keyErr f s ≠ 0) : bits f s = [] := if_neg h
theorem may_ok {f : DFilter} {s : ByteArray} (h : keyErr f s = 0) : may f s = !(places f s).any (fun x => !decide (x ∈ f.set)) := if_pos h
theorem may_bad {f : DFilter} {s : ByteArray} (h : keyErr f s ≠ 0) : may f s = false := if_neg h
theorem ok_add {f : DFilter} {s : ByteArray} (h : keyErr f s = 0) : Ok (add f s) := by
  have ho := (key_ok h).1
  rw [add_ok h]
  refine ⟨ho.size, ho.hashes, once_up _, fun x hx => ?_⟩
  rcases List.mem_append.1 (once_mem.1 hx) with e | e
  · exact ho.bd x e
  · exact places_bd ho e
/-! ### the halving search -/
theorem split_up {l : List Int} (h : Up l) (t : Int) : Split (fun x : Int => cmpI x t) l := by
  intro a b hb hlt hn
  simp only [cmpI_neg] at hn ⊢
  have : l[a]'(by omega) < l[b] := List.pairwise_iff_getElem.1 h a b _ hb hlt
  omega
theorem hit_mem {l : List Int} (h : Up l) (t : Int) : hitF (fun x : Int => cmpI x t) l = decide (t ∈ l) := by
  have hsp := split_up h t
  rw [Bool.eq_iff_iff, decide_eq_true_eq]
  unfold hitF
  simp only [Bool.and_eq_true, decide_eq_true_eq, beq_iff_eq, cmpI_zero]
  constructor
  · rintro ⟨h1, h2⟩
    have h3 : lowF (fun x : Int => cmpI x t) l < l.length := Int.ofNat_lt.1 h1
    rw [← getd_at h3 default] at h2
    rw [← h2]; exact List.getElem_mem h3
  · intro hm
    obtain ⟨i, hi, e⟩ := List.getElem_of_mem hm
    have h1 : lowF (fun x : Int => cmpI x t) l ≤ i := by
      rcases Nat.lt_or_ge i (lowF (fun x : Int => cmpI x t) l) with h2 | h2
      · have := cmpI_neg.1 ((low_spec (f := fun x : Int => cmpI x t)).1 i hi h2); omega
      · exact h2
    have h3 : lowF (fun x : Int => cmpI x t) l < l.length := by omega
    have h4 := (low_spec (f := fun x : Int => cmpI x t) (l := l)).2 h3
    refine ⟨Int.ofNat_lt.2 h3, ?_⟩
    rw [← getd_at h3 default]
    have h5 : t ≤ l[lowF (fun x : Int => cmpI x t) l] := by
      rcases Int.lt_or_le l[lowF (fun x : Int => cmpI x t) l] t with h6 | h6
      · have := cmpI_neg.2 h6; omega
      · exact h6
    rcases Nat.eq_or_lt_of_le h1 with h6 | h6
    · simp only [h6]; exact e
    · have h7 : l[lowF (fun x : Int => cmpI x t) l] < l[i] := List.pairwise_iff_getElem.1 h _ i h3 hi h6
      omega
/-! ### unions -/
theorem ue1 {a b : DFilter} (h : check a ≠ 0) : uni a b = zero ∧ uniErr a b = check a := by
  have e : uniErr a b = check a := if_pos h
  exact ⟨if_neg (by rw [e]; exact h), e⟩
theorem ue2 {a b : DFilter} (h : check a = 0) (h2 : check b ≠ 0) : uni a b = zero ∧ uniErr a b = check b := by
  have e : uniErr a b = check b := by unfold uniErr; rw [if_neg (by simp [h]), if_pos h2]
  exact ⟨if_neg (by rw [e]; exact h2), e⟩
theorem ue3 {a b : DFilter} (h : check a = 0) (h2 : check b = 0) (h3 : ¬ a.size = b.size ∨ ¬ a.hashes = b.hashes) : uni a b = zero ∧ uniErr a b = 7 := by
  have e : uniErr a b = 7 := by unfold uniErr; rw [if_neg (by simp [h]), if_neg (by simp [h2]), if_pos h3]
  exact ⟨if_neg (by rw [e]; decide), e⟩
theorem ue4 {a b : DFilter} (h : check a = 0) (h2 : check b = 0) (h3 : a.size = b.size ∧ a.hashes = b.hashes) : uni a b = ⟨a.size, a.hashes, once (a.set ++ b.set)⟩ ∧ uniErr a b = 0 := by
  have e : uniErr a b = 0 := by unfold uniErr; rw [if_neg (by simp [h]), if_neg (by simp [h2]), if_neg (by omega)]
  exact ⟨if_pos e, e⟩
theorem uni_ok {a b : DFilter} (h : uniErr a b = 0) : Ok a ∧ Ok b ∧ a.size = b.size ∧ a.hashes = b.hashes ∧ uni a b = ⟨a.size, a.hashes, once (a.set ++ b.set)⟩ := by
  have e := h
  unfold uniErr at h
  split at h
  · rename_i h1; exact absurd h h1
  · rename_i h1
    split at h
    · rename_i h2; exact absurd h h2
    · rename_i h2
      split at h
      · cases h
      · exact ⟨check_ok.1 (by simpa using h1), check_ok.1 (by simpa using h2), by omega, by omega, if_pos e⟩
theorem fe1 {f : DFilter} (h : check f ≠ 0) : fold f = zero ∧ foldErr f = check f := by
  have e : foldErr f = check f := if_pos h
  exact ⟨if_neg (by rw [e]; exact h), e⟩
theorem fe2 {f : DFilter} (h : check f = 0) (h2 : f.size.tmod 2 ≠ 0) : fold f = zero ∧ foldErr f = 4 := by
  have e : foldErr f = 4 := by unfold foldErr; rw [if_neg (by simp [h]), if_pos h2]
  exact ⟨if_neg (by rw [e]; decide), e⟩
theorem fe3 {f : DFilter} (h : check f = 0) (h2 : f.size.tmod 2 = 0) : fold f = ⟨f.size.tdiv 2, f.hashes, once (f.set.map fun x => x.tdiv 2)⟩ ∧ foldErr f = 0 := by
  have e : foldErr f = 0 := by unfold foldErr; rw [if_neg (by simp [h]), if_neg (by simp [h2])]
  exact ⟨if_pos e, e⟩
structure FoI (f o : DFilter) (k : Nat) : Prop where
  le : k ≤ f.set.length
  size : o.size = f.size.tdiv 2
  hashes : o.hashes = f.hashes
  set : o.set = (f.set.take k).map fun x => x.tdiv 2
theorem FoI.start (f : DFilter) : FoI f ⟨f.size.tdiv 2, f.hashes, []⟩ 0 := ⟨Nat.zero_le _, rfl, rfl, rfl⟩
theorem FoI.len {f o : DFilter} {k : Nat} (h : FoI f o k) : o.set.length = k := by rw [h.set, List.length_map, List.length_take]; have := h.le; omega
theorem FoI.next {f o : DFilter} {k : Nat} (h : FoI f o k) (hk : k < f.set.length) : FoI f ⟨o.size, o.hashes, o.set ++ [(f.set[k]).tdiv 2]⟩ (k + 1) := ⟨hk, h.size, h.hashes, by rw [List.take_succ_eq_append_getElem hk, List.map_append, h.set]; rfl⟩
theorem FoI.done {f o : DFilter} {k : Nat} (h : FoI f o k) (hk : f.set.length ≤ k) : o = ⟨f.size.tdiv 2, f.hashes, f.set.map fun x => x.tdiv 2⟩ := by
  have := h.set; rw [List.take_of_length_le hk] at this
  cases o; simp_all [h.size, h.hashes]
  exact ⟨h.size, h.hashes⟩
end Go.Sx.Bl
namespace Go.Sx.Bl
theorem cmp_ge {x y : Int} (h : y ≤ x) : 0 ≤ cmpI x y := by unfold cmpI; rw [if_neg (by omega)]; split <;> decide
theorem hit_eq2 {l : List Int} {target i : Int} (h : i = (lowF (fun x : Int => cmpI x target) l : Int)) : (decide (i < (l.length : Int)) && ((l.getD i.toNat default == target) || false)) = hitF (fun x : Int => cmpI x target) l := by
  unfold hitF
  rw [h, Bool.or_false, show (((lowF (fun x : Int => cmpI x target) l : Nat) : Int)).toNat = lowF (fun x : Int => cmpI x target) l from Int.toNat_natCast _]
  congr 1
  rw [Bool.eq_iff_iff, beq_iff_eq, beq_iff_eq, cmpI_zero]
theorem at_bd {f : DFilter} (h : Ok f) {k : Nat} (hk : k < f.set.length) : (0 ≤ f.set[k] ∧ f.set[k] < f.size) ∧ (f.set[k]).tdiv 2 = f.set[k] / 2 := by
  have := h.bd _ (List.getElem_mem hk)
  exact ⟨this, Int.tdiv_eq_ediv_of_nonneg this.1⟩
end Go.Sx.Bl
