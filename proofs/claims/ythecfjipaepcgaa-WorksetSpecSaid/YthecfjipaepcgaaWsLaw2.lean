/- Working sets: the set of a place, and the reference's search for it. -/
import Derived.Test.YthecfjipaepcgaaWsLaw
import Derived.Test.YthecfjipaepcgaaSx24
import Derived.Test.YthecfjipaepcgaaBeLaw
namespace Go.Sx.Ws
def set (l : List Int) (w : Int) (i : Nat) : List Int := sortK (mapAt l w (i + 1))
theorem sortK_mem {m : M} {x : Int} : x ∈ sortK m ↔ x ∈ m.map (·.1) := by unfold sortK; exact List.mem_mergeSort
theorem Cnt.mem {m : M} {s : List Int} (h : Cnt m s) (x : Int) : x ∈ m.map (·.1) ↔ x ∈ s := by
  rw [← AL.get_isSome, h.get, ← List.count_pos_iff]
  split
  · rename_i e; simp [e]
  · rename_i e; exact ⟨fun _ => Nat.pos_of_ne_zero e, fun _ => rfl⟩
theorem sortK_lt {m : M} (h : (m.map (·.1)).Nodup) : (sortK m).Pairwise (· < ·) := by
  have h1 : (sortK m).Pairwise (fun a b => decide (a ≤ b) = true) := List.pairwise_mergeSort (fun a b c h1 h2 => by simp only [decide_eq_true_eq] at *; omega) (fun a b => by simp only [Bool.or_eq_true, decide_eq_true_eq]; omega) _
  have h2 : (sortK m).Nodup := by unfold sortK; exact (List.mergeSort_perm _ _).nodup_iff.2 h
  refine (h1.and h2).imp ?_
  intro a b hab
  obtain ⟨h3, h4⟩ := hab
  simp only [decide_eq_true_eq] at h3
  omega
theorem set_mem {l : List Int} {w : Int} (h1 : 1 ≤ w) {i : Nat} (hi : i < l.length) (x : Int) : x ∈ set l w i ↔ x ∈ win l w (i + 1) := by
  rw [set, sortK_mem]; exact (mapAt_cnt h1 (i + 1) (by omega)).mem x
theorem set_lt {l : List Int} {w : Int} (h1 : 1 ≤ w) {i : Nat} (hi : i < l.length) : (set l w i).Pairwise (· < ·) := sortK_lt (mapAt_cnt h1 (i + 1) (by omega)).nd
theorem win_mem {l : List Int} {w : Int} {k : Nat} (hk : k ≤ l.length) {x : Int} : x ∈ win l w k ↔ ∃ j, ∃ h : j < l.length, (k : Int) - w ≤ j ∧ (k - w.toNat ≤ j) ∧ j < k ∧ l[j] = x := by
  unfold win
  constructor
  · intro h
    obtain ⟨q, hq, e⟩ := List.getElem_of_mem h
    rw [List.length_drop, List.length_take] at hq
    rw [List.getElem_drop, List.getElem_take] at e
    exact ⟨k - w.toNat + q, by omega, by omega, by omega, by omega, e⟩
  · rintro ⟨j, hj, _, h1, h2, e⟩
    have hq : j - (k - w.toNat) < ((l.take k).drop (k - w.toNat)).length := by rw [List.length_drop, List.length_take]; omega
    have := List.getElem_mem hq
    rw [List.getElem_drop, List.getElem_take] at this
    simp only [show k - w.toNat + (j - (k - w.toNat)) = j by omega] at this
    rwa [e] at this
theorem filter_next {S : List Int} {last nx : Int} (hs : S.Pairwise (· < ·)) (h1 : last < nx) (h2 : nx ∈ S) (h3 : ∀ x ∈ S, last < x → nx ≤ x) : S.filter (fun x => decide (x ≤ nx)) = S.filter (fun x => decide (x ≤ last)) ++ [nx] := by
  induction S with
  | nil => cases h2
  | cons a S ih =>
    obtain ⟨ha, hs⟩ := List.pairwise_cons.1 hs
    by_cases hl : a ≤ last
    · have h4 : nx ∈ S := (List.mem_cons.1 h2).resolve_left (by omega)
      rw [List.filter_cons_of_pos (by simp; omega), List.filter_cons_of_pos (by simp; omega), ih hs h4 (fun x hx => h3 x (by simp [hx]))]; rfl
    · have h4 := h3 a (by simp) (by omega)
      have h5 : nx = a := by
        rcases List.mem_cons.1 h2 with h | h
        · exact h
        · have := ha _ h; omega
      subst h5
      have e1 : S.filter (fun x => decide (x ≤ nx)) = [] := List.filter_eq_nil_iff.2 fun x hx => by have := ha x hx; simp; omega
      have e2 : S.filter (fun x => decide (x ≤ last)) = [] := List.filter_eq_nil_iff.2 fun x hx => by have := ha x hx; simp; omega
      rw [List.filter_cons_of_pos (by simp), List.filter_cons_of_neg (by simp; omega), e1, e2]; rfl
/-! ### The reference -/
structure OI (l : List Int) (w : Int) (i : Nat) (out : List Int) (last : Int) : Prop where
  lo : -1 ≤ last
  eq : out = (set l w i).filter (fun x => decide (x ≤ last))
theorem OI.len {l : List Int} {w : Int} {i : Nat} {out : List Int} {last : Int} (h : OI l w i out last) (hl : l.length ≤ 200) (h1 : 1 ≤ w) (hi : i < l.length) : out.length ≤ (set l w i).length ∧ (set l w i).length ≤ 200 := by
  refine ⟨by rw [h.eq]; exact List.length_filter_le _ _, ?_⟩
  have h2 : (set l w i).length ≤ (win l w (i + 1)).length := Belady.nodup_le ((set_lt h1 hi).imp (fun h => by omega)) (fun x hx => (set_mem h1 hi x).1 hx)
  have := win_len l w (i + 1)
  omega
theorem OI.start {l : List Int} {w : Int} {i : Nat} (h1 : 1 ≤ w) (hi : i < l.length) (h0 : ∀ x ∈ l, 0 ≤ x) : OI l w i [] (-1) := by
  refine ⟨Int.le_refl _, (List.filter_eq_nil_iff.2 fun x hx => ?_).symm⟩
  obtain ⟨j, hj, _, _, _, e⟩ := (win_mem (by omega)).1 ((set_mem h1 hi x).1 hx)
  have := h0 l[j] (List.getElem_mem hj)
  simp; omega
structure II (l : List Int) (w : Int) (at_ : Nat) (last next : Int) (i : Int) : Prop where
  lo : -1 ≤ i
  hi : i ≤ at_
  ww : (at_ : Int) - w ≤ i
  nx : (next = -1 ∧ ∀ j (h : j < l.length), i < (j : Int) → j ≤ at_ → l[j] ≤ last) ∨ (last < next ∧ 0 ≤ next ∧ (∃ j, ∃ h : j < l.length, i < (j : Int) ∧ j ≤ at_ ∧ l[j] = next) ∧ ∀ j (h : j < l.length), i < (j : Int) → j ≤ at_ → last < l[j] → next ≤ l[j])
theorem II.start {l : List Int} {w : Int} {at_ : Nat} (h1 : 1 ≤ w) (last : Int) : II l w at_ last (-1) at_ := ⟨by omega, Int.le_refl _, by omega, .inl ⟨rfl, fun j h h2 h3 => by omega⟩⟩
theorem II.take_ {l : List Int} {w : Int} {at_ : Nat} {last next i : Int} (h : II l w at_ last next i) (h0 : ∀ x ∈ l, 0 ≤ x) (hi : 0 ≤ i) (hw : (at_ : Int) - w < i) (hl : i.toNat < l.length) (hc : last < l[i.toNat] ∧ (next < 0 ∨ l[i.toNat] < next)) : II l w at_ last l[i.toNat] (i - 1) := by
  obtain ⟨a, b, c, d⟩ := h
  refine ⟨by omega, by omega, by omega, .inr ⟨hc.1, h0 _ (List.getElem_mem hl), ⟨i.toNat, hl, by omega, by omega, rfl⟩, fun j hj h2 h3 h4 => ?_⟩⟩
  by_cases e : (j : Int) = i
  · have : j = i.toNat := by clear d; omega
    subst this; exact Int.le_refl _
  · rcases d with ⟨d1, d2⟩ | ⟨d1, d2, -, d4⟩
    · have := d2 j hj (by omega) h3; omega
    · have := d4 j hj (by omega) h3 h4; omega
theorem II.skip {l : List Int} {w : Int} {at_ : Nat} {last next i : Int} (h : II l w at_ last next i) (hi : 0 ≤ i) (hw : (at_ : Int) - w < i) (hl : i.toNat < l.length) (hc : l[i.toNat] ≤ last ∨ (0 ≤ next ∧ next ≤ l[i.toNat])) : II l w at_ last next (i - 1) := by
  obtain ⟨a, b, c, d⟩ := h
  refine ⟨by omega, by omega, by omega, ?_⟩
  rcases d with ⟨d1, d2⟩ | ⟨d1, d2, ⟨j0, hj0, d3, d5, d6⟩, d4⟩
  · refine .inl ⟨d1, fun j hj h2 h3 => ?_⟩
    by_cases e : (j : Int) = i
    · have : j = i.toNat := by omega
      subst this; omega
    · exact d2 j hj (by omega) h3
  · refine .inr ⟨d1, d2, ⟨j0, hj0, by omega, d5, d6⟩, fun j hj h2 h3 h4 => ?_⟩
    by_cases e : (j : Int) = i
    · have : j = i.toNat := by omega
      subst this; omega
    · exact d4 j hj (by omega) h3 h4
theorem II.seen {l : List Int} {w : Int} {at_ : Nat} {last next i : Int} (h : II l w at_ last next i) (h1 : 1 ≤ w) (hat : at_ < l.length) (he : i < 0 ∨ i ≤ (at_ : Int) - w) (x : Int) : x ∈ set l w at_ ↔ ∃ j, ∃ h : j < l.length, i < (j : Int) ∧ j ≤ at_ ∧ l[j] = x := by
  rw [set_mem h1 hat, win_mem (by omega)]
  have := h.lo; have := h.ww
  constructor
  · rintro ⟨j, hj, a, _, c, e⟩; exact ⟨j, hj, by omega, by omega, e⟩
  · rintro ⟨j, hj, a, b, e⟩; exact ⟨j, hj, by omega, by omega, by omega, e⟩
theorem OI.done {l : List Int} {w : Int} {at_ : Nat} {out : List Int} {last next i : Int} (ho : OI l w at_ out last) (h : II l w at_ last next i) (h1 : 1 ≤ w) (hat : at_ < l.length) (he : i < 0 ∨ i ≤ (at_ : Int) - w) (hn : next < 0) : out = set l w at_ := by
  rw [ho.eq]
  refine List.filter_eq_self.2 fun x hx => ?_
  obtain ⟨j, hj, a, b, rfl⟩ := (h.seen h1 hat he x).1 hx
  rcases h.nx with ⟨d1, d2⟩ | ⟨d1, d2, d3, d4⟩
  · simpa using d2 j hj a b
  · omega
theorem OI.next {l : List Int} {w : Int} {at_ : Nat} {out : List Int} {last next i : Int} (ho : OI l w at_ out last) (h : II l w at_ last next i) (h1 : 1 ≤ w) (hat : at_ < l.length) (he : i < 0 ∨ i ≤ (at_ : Int) - w) (hn : 0 ≤ next) :
    OI l w at_ (out ++ [next]) next ∧ (out ++ [next]).length ≤ (set l w at_).length := by
  rcases h.nx with ⟨d1, d2⟩ | ⟨d1, d2, ⟨j, hj, a, b, e⟩, d4⟩
  · omega
  · have hlo := ho.lo
    have e2 : out ++ [next] = (set l w at_).filter (fun x => decide (x ≤ next)) := by
      rw [filter_next (set_lt h1 hat) d1 ((h.seen h1 hat he next).2 ⟨j, hj, a, b, e⟩) (fun x hx hl => ?_), ho.eq]
      obtain ⟨j', hj', a', b', rfl⟩ := (h.seen h1 hat he x).1 hx
      exact d4 j' hj' a' b' hl
    exact ⟨⟨by omega, e2⟩, by rw [e2]; exact List.length_filter_le _ _⟩
end Go.Sx.Ws
