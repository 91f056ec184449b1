/- Stack distances: what the functions answer, the references' loops, the laws. -/
import Derived.Test.YtkndekkacimekaaDpLaw
namespace Go.Sx.Deep
open Go.Sx.Lru (at_ at_lt at_mem at_idx erase_at trace trace_ok)
def dist (l : List Int) : List Int := if trace l = 0 then depths l else []
def hitsR (l : List Int) : List Int := if trace l = 0 then hits l else []
def misses (l : List Int) : List Int := if trace l = 0 then (hits l).map (fun n => (l.length : Int) - n) else []
/-- enough hits (as the machine reckons) -/
def enough (m percent n : Int) : Bool := decide (IntKind.i64.wrap (percent * m) ≤ IntKind.i64.wrap (100 * n))
abbrev at40 (l : List Int) (percent : Int) : Int := idxF (fun n => enough l.length percent n) (hits l)
def roomErr (l : List Int) (percent : Int) : Int := if trace l = 0 then (if percent < 0 ∨ 100 < percent then 3 else if at40 l percent < 0 then 5 else 0) else trace l
def room (l : List Int) (percent : Int) : Int := if roomErr l percent = 0 then at40 l percent + 1 else 0
theorem dist1 {l : List Int} (h : trace l ≠ 0) : [] = dist l := (if_neg h).symm
theorem dist2 {l : List Int} (h : trace l = 0) : depths l = dist l := (if_pos h).symm
theorem hits1 {l : List Int} (h : trace l ≠ 0) : [] = hitsR l := (if_neg h).symm
theorem hits2 {l : List Int} (h : trace l = 0) : hits l = hitsR l := (if_pos h).symm
theorem len200 {l : List Int} (h : trace l = 0) : l.length ≤ 200 := (trace_ok.1 h).1
theorem room1 {l : List Int} {p : Int} (h : trace l ≠ 0) : 0 = room l p ∧ trace l = roomErr l p := by
  have e : roomErr l p = trace l := if_neg h
  exact ⟨by rw [room, if_neg (by rw [e]; exact h)], e.symm⟩
theorem room2 {l : List Int} {p : Int} (h : trace l = 0) (h2 : p < 0 ∨ 100 < p) : 0 = room l p ∧ 3 = roomErr l p := by
  have e : roomErr l p = 3 := by rw [roomErr, if_pos h, if_pos h2]
  exact ⟨by rw [room, if_neg (by rw [e]; decide)], e.symm⟩
theorem room3 {l : List Int} {p : Int} (h : trace l = 0) (h2 : 0 ≤ p ∧ p ≤ 100) (h3 : at40 l p < 0) : 0 = room l p ∧ 5 = roomErr l p := by
  have e : roomErr l p = 5 := by rw [roomErr, if_pos h, if_neg (by omega), if_pos h3]
  exact ⟨by rw [room, if_neg (by rw [e]; decide)], e.symm⟩
theorem room4 {l : List Int} {p : Int} (h : trace l = 0) (h2 : 0 ≤ p ∧ p ≤ 100) (h3 : 0 ≤ at40 l p) : at40 l p + 1 = room l p ∧ 0 = roomErr l p := by
  have e : roomErr l p = 0 := by rw [roomErr, if_pos h, if_neg (by omega), if_neg (by omega)]
  exact ⟨by rw [room, if_pos e], e.symm⟩
theorem room_cases (l : List Int) (p : Int) : (trace l ≠ 0 ∧ room l p = 0 ∧ roomErr l p = trace l) ∨ (trace l = 0 ∧ (p < 0 ∨ 100 < p) ∧ room l p = 0 ∧ roomErr l p = 3) ∨ (trace l = 0 ∧ (0 ≤ p ∧ p ≤ 100) ∧ at40 l p < 0 ∧ room l p = 0 ∧ roomErr l p = 5) ∨ (trace l = 0 ∧ (0 ≤ p ∧ p ≤ 100) ∧ 0 ≤ at40 l p ∧ room l p = at40 l p + 1 ∧ roomErr l p = 0) := by
  by_cases h : trace l = 0
  · by_cases h2 : p < 0 ∨ 100 < p
    · obtain ⟨a, b⟩ := room2 h h2; exact .inr (.inl ⟨h, h2, a.symm, b.symm⟩)
    · have h2' : 0 ≤ p ∧ p ≤ 100 := by omega
      by_cases h3 : at40 l p < 0
      · obtain ⟨a, b⟩ := room3 h h2' h3; exact .inr (.inr (.inl ⟨h, h2', h3, a.symm, b.symm⟩))
      · obtain ⟨a, b⟩ := room4 h h2' (by omega); exact .inr (.inr (.inr ⟨h, h2', by omega, a.symm, b.symm⟩))
  · obtain ⟨a, b⟩ := room1 (p := p) h; exact .inl ⟨h, a.symm, b.symm⟩
/- misses: counted down in place -/
structure MInv (l out : List Int) (k : Nat) : Prop where
  le : k ≤ (hitsR l).length
  len : out.length = (hitsR l).length
  done_ : ∀ j (h : j < out.length) (h2 : j < (hitsR l).length), j < k → out[j] = (l.length : Int) - (hitsR l)[j]
  rest : ∀ j (h : j < out.length) (h2 : j < (hitsR l).length), k ≤ j → out[j] = (hitsR l)[j]
theorem MInv.start (l : List Int) : MInv l (hitsR l) 0 := ⟨Nat.zero_le _, rfl, fun j _ _ h => absurd h (Nat.not_lt_zero _), fun j _ _ _ => rfl⟩
theorem hitsR_bd {l : List Int} {j : Nat} (h : j < (hitsR l).length) : 0 ≤ (hitsR l)[j] ∧ (hitsR l)[j] ≤ l.length := by
  have e : trace l = 0 := by
    by_cases e : trace l = 0
    · exact e
    · rw [← hits1 e] at h; exact absurd h (Nat.not_lt_zero _)
  have e2 : hitsR l = hits l := (hits2 e).symm
  have h2 : j < (hits l).length := by rw [← e2]; exact h
  have e3 : (hitsR l)[j] = (hits l)[j] := by simp only [e2]
  rw [e3, hits_get]; exact hitsAt_bd _ _
theorem MInv.bd {l out : List Int} {k : Nat} (h : MInv l out k) (hk : k < out.length) : 0 ≤ out[k] ∧ out[k] ≤ l.length := by
  have h2 : k < (hitsR l).length := by rw [← h.len]; exact hk
  rw [h.rest k hk h2 (Nat.le_refl _)]; exact hitsR_bd h2
theorem MInv.next {l out : List Int} {k : Nat} (h : MInv l out k) (hk : k < out.length) : MInv l (out.set k ((l.length : Int) - out[k])) (k + 1) := by
  have hl := h.len
  refine ⟨by omega, by simp [h.len], fun j hj h2 hlt => ?_, fun j hj h2 hle => ?_⟩
  · rw [List.length_set] at hj; rw [List.getElem_set]; split
    · rename_i e; subst e; rw [h.rest _ hk h2 (Nat.le_refl _)]
    · exact h.done_ j hj h2 (by omega)
  · rw [List.length_set] at hj; rw [List.getElem_set_ne (by omega)]; exact h.rest j hj h2 (by omega)
theorem MInv.done {l out : List Int} {k : Nat} (h : MInv l out k) (hk : (out.length : Int) ≤ k) : out = misses l := by
  have e : misses l = (hitsR l).map (fun n => (l.length : Int) - n) := by unfold misses hitsR; split <;> rfl
  rw [e]; apply List.ext_getElem (by rw [h.len, List.length_map])
  intro j h1 h2; rw [List.length_map] at h2; rw [List.getElem_map]; exact h.done_ j h1 h2 (by omega)
/- the reference: the last place of the same key -/
structure AInv (l : List Int) (i last : Int) : Prop where
  lo : -1 ≤ last
  hi : last < i
  il : i < (l.length : Int)
  no : ∀ j (h : j < l.length), last < (j : Int) → (j : Int) < i → l[j] ≠ l.getD i.toNat 0
theorem AInv.start {l : List Int} {i : Int} (h : 0 ≤ i ∧ i < (l.length : Int)) : AInv l i (i - 1) := ⟨by omega, by omega, h.2, fun j h1 h2 h3 => by omega⟩
theorem getD_at {l : List Int} {i : Nat} (h : i < l.length) : l.getD i 0 = l[i] := by rw [List.getD_eq_getElem?_getD, List.getElem?_eq_getElem h]; rfl
theorem AInv.next {l : List Int} {i last : Int} (h : AInv l i last) (h0 : 0 ≤ last) (h1 : last.toNat < l.length) (h2 : i.toNat < l.length) (hne : l[last.toNat] ≠ l[i.toNat]) : AInv l i (last - 1) :=
  ⟨by omega, by have := h.hi; omega, h.il, fun j hj h3 h4 => by
    by_cases e : j = last.toNat
    · subst e; rw [getD_at h2]; exact hne
    · exact h.no j hj (by omega) h4⟩
theorem AInv.new {l : List Int} {i last : Int} (h : AInv l i last) (h0 : last < 0) : 0 = deep l i.toNat := by
  rw [deep_new]; intro hm
  obtain ⟨j, hj, e⟩ := List.getElem_of_mem hm
  rw [List.length_take] at hj; rw [List.getElem_take] at e
  exact h.no j (by omega) (by omega) (by omega) e
/-- the keys from there on -/
def seg (l : List Int) (a b : Nat) : List Int := (l.take b).drop a
theorem seg_next {l : List Int} {a k : Nat} (h : a ≤ k) (hk : k < l.length) : seg l a (k + 1) = seg l a k ++ [l[k]] := by
  rw [seg, seg, List.take_succ_eq_append_getElem hk, List.drop_append_of_le_length (by rw [List.length_take]; omega)]
structure UInv (l : List Int) (a i : Int) (u : List Int) (k : Int) : Prop where
  a0 : 0 ≤ a
  le : a ≤ k
  ki : k ≤ i
  il : i < (l.length : Int)
  u_ : u = uniq (seg l a.toNat k.toNat)
theorem uniq_len (l : List Int) : (uniq l).length ≤ l.length := by rw [uniq_stack]; exact stack_len l
theorem UInv.ul {l : List Int} {a i : Int} {u : List Int} {k : Int} (h : UInv l a i u k) : (u.length : Int) ≤ k := by
  have := h.le; have := h.a0
  rw [h.u_]; have := uniq_len (seg l a.toNat k.toNat); simp only [seg, List.length_drop, List.length_take] at this ⊢; omega
theorem UInv.start {l : List Int} {a i : Int} (h : AInv l i a) (h0 : 0 ≤ a) : UInv l a i [] a := ⟨h0, Int.le_refl _, by have := h.hi; omega, h.il, by
  have : seg l a.toNat a.toNat = [] := by rw [seg, List.drop_eq_nil_iff, List.length_take]; omega
  rw [this]; rfl⟩
theorem seg_int {l : List Int} {a i : Int} {u : List Int} {k : Int} (h : UInv l a i u k) (hk : k.toNat < l.length) : seg l a.toNat (k + 1).toNat = seg l a.toNat k.toNat ++ [l[k.toNat]] := by
  have := h.a0; have := h.le
  rw [show (k + 1).toNat = k.toNat + 1 by omega, seg_next (by omega) hk]
theorem UInv.add {l : List Int} {a i : Int} {u : List Int} {k : Int} (h : UInv l a i u k) (hlt : k < i) (hk : k.toNat < l.length) (hm : Ref.hasInt u l[k.toNat] = false) : UInv l a i (u ++ [l[k.toNat]]) (k + 1) := by
  have := h.le
  refine ⟨h.a0, by omega, by omega, h.il, ?_⟩
  rw [seg_int h hk, uniq_snoc, if_neg (by rw [← h.u_]; exact of_decide_eq_false hm), h.u_]
theorem UInv.not {l : List Int} {a i : Int} {u : List Int} {k : Int} (h : UInv l a i u k) (hlt : k < i) (hk : k.toNat < l.length) (hm : Ref.hasInt u l[k.toNat] = true) : UInv l a i u (k + 1) := by
  have := h.le
  refine ⟨h.a0, by omega, by omega, h.il, ?_⟩
  rw [seg_int h hk, uniq_snoc, if_pos (by rw [← h.u_]; exact of_decide_eq_true hm), h.u_]
theorem UInv.done {l : List Int} {i last : Int} {u : List Int} {k : Int} (h : UInv l last i u k) (hA : AInv l i last) (h1 : last.toNat < l.length) (h2 : i.toNat < l.length) (he : l[last.toNat] = l[i.toNat]) (hk : i ≤ k) : (u.length : Int) = deep l i.toNat := by
  have hi := hA.hi; have h0 := h.a0; have hki := h.ki
  obtain rfl : k = i := by omega
  have e1 : seg l last.toNat k.toNat = l.getD k.toNat 0 :: (l.take k.toNat).drop (last.toNat + 1) := by
    rw [seg, List.drop_eq_getElem_cons (by rw [List.length_take]; omega), List.getElem_take, he, getD_at h2]
  have e2 : l.take k.toNat = (l.take k.toNat).take last.toNat ++ l.getD k.toNat 0 :: (l.take k.toNat).drop (last.toNat + 1) := by
    rw [← e1, seg]; exact (List.take_append_drop _ _).symm
  rw [h.u_, e1, deep_again e2]
  intro hm
  obtain ⟨j, hj, e⟩ := List.getElem_of_mem hm
  rw [List.length_drop, List.length_take] at hj
  rw [List.getElem_drop, List.getElem_take] at e
  exact hA.no _ (by omega) (by omega) (by omega) e
structure NInv (l : List Int) (room n : Int) (i : Nat) : Prop where
  le : i ≤ l.length
  n_ : n = (((depths l).take i).countP (fun d => decide (0 < d) && decide (d ≤ room)) : Nat)
theorem NInv.start (l : List Int) (room : Int) : NInv l room 0 0 := ⟨Nat.zero_le _, by simp⟩
theorem NInv.bd {l : List Int} {room n : Int} {i : Nat} (h : NInv l room n i) : 0 ≤ n ∧ n ≤ i := by
  have := List.countP_le_length (p := fun d : Int => decide (0 < d) && decide (d ≤ room)) (l := (depths l).take i)
  rw [List.length_take] at this; rw [h.n_]; omega
theorem take_depths {l : List Int} {i : Nat} (h : i < l.length) : (depths l).take (i + 1) = (depths l).take i ++ [deep l i] := by
  rw [List.take_succ_eq_append_getElem (by rw [depths_len]; exact h), depths_get]
theorem NInv.yes {l : List Int} {room n : Int} {i : Nat} (h : NInv l room n i) (hi : i < l.length) (h1 : 0 < deep l ((i : Int)).toNat) (h2 : deep l ((i : Int)).toNat ≤ room) : NInv l room (n + 1) (i + 1) := by
  simp only [Int.toNat_natCast] at h1 h2
  refine ⟨by omega, ?_⟩
  rw [take_depths hi, List.countP_append, List.countP_singleton, if_pos (by simp; omega), h.n_]; omega
theorem NInv.no {l : List Int} {room n : Int} {i : Nat} (h : NInv l room n i) (hi : i < l.length) (h1 : deep l ((i : Int)).toNat ≤ 0 ∨ room < deep l ((i : Int)).toNat) : NInv l room n (i + 1) := by
  simp only [Int.toNat_natCast] at h1
  refine ⟨by omega, ?_⟩
  rw [take_depths hi, List.countP_append, List.countP_singleton, if_neg (by simp; omega), h.n_]; omega
theorem NInv.done {l : List Int} {room n : Int} {i : Nat} (h : NInv l room n i) (hi : (l.length : Int) ≤ i) : n = hitsAt l room := by
  rw [h.n_, List.take_of_length_le (by rw [depths_len]; omega)]; rfl
end Go.Sx.Deep
