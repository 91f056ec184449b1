/- Boxes that are read by a call that changes other entries; a slice that is cut behind its end. -/
import Derived.Test.YtgkihbbeimhmbaaDoorSx20
import Derived.Test.YtgkihbbeimhmbaaDoorLbPure
namespace Go.Sx
open Go.RowKit
section
variable {α : Type} {P : Program} {n : Nat} {w0 : World} {r : Option Nat} {ds : List Deferred} {F : List (Nat × Value)} {H : List Ent}
variable {T : Ty α} {S : Nat → Prop} {a : Option Addr} {cap : Nat} {L M : List α}
variable {ty : TypeId} {pos : String} {after : Array Edge} {guard : Option (Nat × Bool)} {dst : Option Tmp} {x y : Operand}
theorem rbox_outer {i B : Nat} {pre : List Ent} {cs : List Value} {U : TypeId} (hi : H[i]? = some (outer w0 pre)) (h : (box B cs U).A w0 ∧ (outer w0 pre).S B) : ∀ w, HeapIs w0 H w → (box B cs U).A w := fun w hw => by
  have g := (hw.at hi).here
  show w.heap[B]? = _
  rw [g B h.2.1 h.2.2]; exact h.1
/-- what lies in one entry lies outside of others -/
theorem outX {i : Nat} {e : Ent} {pre : List Ent} {js : List Nat} {B : Nat} (hi : H[i]? = some e) (hj : i ∉ js) (hp : js.map (H[·]?) = pre.map some) (h : e.S B) : ∀ w, HeapIs w0 H w → (outer w pre).S B := fun w hw => by
  have g := hw.at hi
  refine ⟨g.bound B h, fun ⟨f, hf, hfb⟩ => ?_⟩
  obtain ⟨k, hk, rfl⟩ := List.mem_iff_getElem.1 hf
  have hlen : js.length = pre.length := by simpa using congrArg List.length hp
  have h3 := congrArg (·[k]?) hp
  simp only [List.getElem?_map, List.getElem?_eq_getElem hk, List.getElem?_eq_getElem (show k < js.length by omega), Option.map_some, Option.some.injEq] at h3
  obtain ⟨q1, q2⟩ := List.getElem?_eq_some_iff.1 hi
  obtain ⟨r1, r2⟩ := List.getElem?_eq_some_iff.1 h3
  have hne : i ≠ js[k] := fun e => hj (e ▸ List.getElem_mem _)
  have hap := List.pairwise_iff_getElem.1 hw.apart
  rcases Nat.lt_or_gt_of_ne hne with hl | hl
  · exact hap _ _ q1 r1 hl B (by rw [q2]; exact h) (by rw [r2]; exact hfb)
  · exact hap _ _ r1 q1 hl B (by rw [r2]; exact hfb) (by rw [q2]; exact h)
theorem boxX {i B : Nat} {cs : List Value} {U : TypeId} {pre : List Ent} {js : List Nat} (hi : H[i]? = some (box B cs U)) (hj : i ∉ js) (hp : js.map (H[·]?) = pre.map some) : ∀ w, HeapIs w0 H w → (box B cs U).A w ∧ (outer w pre).S B := fun w hw =>
  ⟨(hw.at hi).here, outX hi hj hp rfl w hw⟩
theorem boxX_base {i B : Nat} {cs : List Value} {U : TypeId} {pre : List Ent} {js : List Nat} (hi : H[i]? = some (base w0)) (hj : i ∉ js) (hp : js.map (H[·]?) = pre.map some) (h : (box B cs U).A w0) : ∀ w, HeapIs w0 H w → (box B cs U).A w ∧ (outer w pre).S B := fun w hw =>
  ⟨rbox_base hi h w hw, outX hi hj hp (show B < w0.heap.size from box_lt h) w hw⟩
/-- s[l:], where s is what was cut to its first l elements -/
theorem p_sliceCut {t e : TypeId} {k : IntKind} {l : Int} {L0 : List α} (hx : ev F x = some (.slice a L0.length cap)) (hy : ev F y = some (.int k l)) (hu : P.underlying t = some (.slice e)) (hs : sizeIs P e = some T.k) (h0 : 0 ≤ l) (h1 : l ≤ (L0.length : Int)) (hc : L0.length ≤ cap) :
    Pure ds P n w0 ⟨dst, .slice t x (some y) none none, ty, pos, after, guard⟩ F H (.slice (sa a cap (L0.take l.toNat).length T.k) (L0.length - l.toNat) (cap - l.toNat)) := fun b' w' hb' hw' => by
  have hh : l = (l.toNat : Int) := by omega
  have e : (L0.take l.toNat).length = l.toNat := by rw [List.length_take]; omega
  rw [e]
  exact p_slice (P := P) (n := n) (w0 := w0) (ds := ds) (H := H) (l := l.toNat) (hi := L0.length) (m := cap) (lv := some (.int k l)) (hv := none) (mv := none) hx (by simp [hy]) rfl rfl hu hs (.inr ⟨k, by rw [← hh]⟩) (.inl ⟨rfl, rfl⟩) (.inl ⟨rfl, rfl⟩) (fun _ => rfl) (by omega) hc (Nat.le_refl _) (by simp) b' w' hb' hw'
/-- s[:h], of the same -/
theorem p_sliceKeep {t e : TypeId} {l : Int} {L0 : List α} (hx : ev F x = some (.slice a L0.length cap)) (hy : ev F y = some (.int .i64 l)) (hu : P.underlying t = some (.slice e)) (hs : sizeIs P e = some T.k) (h0 : 0 ≤ l) (h1 : l ≤ (L0.length : Int)) (hc : L0.length ≤ cap) :
    Pure ds P n w0 ⟨dst, .slice t x none (some y) none, ty, pos, after, guard⟩ F H (.slice a (L0.take l.toNat).length cap) := fun b' w' hb' hw' => by
  have e : (L0.take l.toNat).length = l.toNat := by rw [List.length_take]; omega
  rw [e]
  exact p_slice0 (P := P) (n := n) (w0 := w0) (ds := ds) (H := H) (hi := l.toNat) (hv := l) hx hy hu hs (by omega) (by omega) b' w' hb' hw'
end
/-- what is dropped by a rule: the loop of slices.DeleteFunc -/
structure DelI {α : Type} (f : α → Bool) (l m : List α) (i j : Int) : Prop where
  i0 : 0 ≤ i
  ij : i < j
  jl : j ≤ (l.length : Int)
  len : m.length = l.length
  kept : m.take i.toNat = (l.take j.toNat).filter fun x => !f x
  rest : m.drop j.toNat = l.drop j.toNat
theorem filter_none {α : Type} {f : α → Bool} {l : List α} (h : ∀ j (hj : j < l.length), f l[j] = false) : l.filter (fun x => !f x) = l := by
  rw [List.filter_eq_self]; intro x hx
  obtain ⟨j, hj, rfl⟩ := List.getElem_of_mem hx
  simp [h j hj]
theorem DelI.start {α : Type} {f : α → Bool} {l : List α} (h : 0 ≤ idxF f l) : DelI f l l (idxF f l) (idxF f l + 1) := by
  have hlt := idxF_lt f l
  rcases idxF_cases f l with ⟨k, hk, e, h1, h2⟩ | ⟨e, _⟩
  · rw [e] at h hlt ⊢
    refine ⟨h, by omega, by omega, rfl, ?_, rfl⟩
    rw [show ((k : Int)).toNat = k by omega, show ((k : Int) + 1).toNat = k + 1 by omega, List.take_succ_eq_append_getElem hk, List.filter_append]
    have e2 : (l.take k).filter (fun x => !f x) = l.take k := filter_none fun j hj => by
      rw [List.length_take] at hj
      rw [List.getElem_take]; exact h2 j (by omega) (by omega)
    rw [e2]; simp [h1]
  · omega
theorem DelI.le {α : Type} {f : α → Bool} {l m : List α} {i j : Int} (h : DelI f l m i j) : i ≤ (m.length : Int) := by have := h.len; have := h.jl; have := h.ij; omega
theorem DelI.at_ {α : Type} {f : α → Bool} {l m : List α} {i j : Int} (h : DelI f l m i j) {k : Nat} (hk : k = j.toNat) (hm : k < m.length) (hl : k < l.length) : m[k] = l[k] := by
  subst hk
  have h1 := congrArg (·[0]?) h.rest
  simp only [List.getElem?_drop, Nat.add_zero, List.getElem?_eq_getElem hm, List.getElem?_eq_getElem hl, Option.some.injEq] at h1
  exact h1
theorem DelI.drop_ {α : Type} {f : α → Bool} {l m : List α} {i j : Int} (h : DelI f l m i j) (hk : j.toNat < m.length) (hf : f m[j.toNat] = true) : DelI f l m i (j + 1) := by
  have hl : j.toNat < l.length := by have := h.len; omega
  have hi0 := h.i0; have hij := h.ij
  have e := h.at_ rfl hk hl
  refine ⟨hi0, by omega, by omega, h.len, ?_, ?_⟩
  · rw [h.kept, show (j + 1).toNat = j.toNat + 1 by omega, List.take_succ_eq_append_getElem hl, List.filter_append, ← e]; simp [hf]
  · rw [show (j + 1).toNat = j.toNat + 1 by omega]
    have := congrArg (List.drop 1) h.rest
    simpa [List.drop_drop] using this
theorem DelI.keep {α : Type} {f : α → Bool} {l m : List α} {i j : Int} (h : DelI f l m i j) (hk : j.toNat < m.length) (hf : f m[j.toNat] = false) : DelI f l (m.set i.toNat m[j.toNat]) (i + 1) (j + 1) := by
  have hl : j.toNat < l.length := by have := h.len; omega
  have hi0 := h.i0; have hij := h.ij
  have e := h.at_ rfl hk hl
  refine ⟨by omega, by omega, by omega, by rw [List.length_set]; exact h.len, ?_, ?_⟩
  · rw [show (i + 1).toNat = i.toNat + 1 by omega, show (j + 1).toNat = j.toNat + 1 by omega, List.take_succ_eq_append_getElem (by rw [List.length_set]; omega), List.getElem_set_self, List.take_set_of_le (by omega), h.kept, List.take_succ_eq_append_getElem hl, List.filter_append, ← e]
    simp [hf]
  · rw [show (j + 1).toNat = j.toNat + 1 by omega, List.drop_set_of_lt (by omega)]
    have := congrArg (List.drop 1) h.rest
    simpa [List.drop_drop] using this
theorem DelI.done {α : Type} {f : α → Bool} {l m : List α} {i j : Int} (h : DelI f l m i j) (hj : (m.length : Int) ≤ j) : m.take i.toNat = l.filter fun x => !f x := by
  have := h.len; have := h.jl
  rw [h.kept, List.take_of_length_le (by omega)]
end Go.Sx
