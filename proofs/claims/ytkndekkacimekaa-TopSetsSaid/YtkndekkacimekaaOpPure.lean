/- The optimal policy: the plain functions. -/
import Derived.Test.YtkndekkacimekaaBeLaw
namespace Go.Sx.Opt
open Belady (Run)
/-- when a key comes again, from a place on -/
def ca (l : List Int) (i : Nat) (k : Int) : Nat := i + (l.drop i).idxOf k
theorem ca_le {l : List Int} {i : Nat} (k : Int) (h : i ≤ l.length) : ca l i k ≤ l.length := by
  have := List.idxOf_le_length (a := k) (l := l.drop i)
  simp only [List.length_drop] at this
  unfold ca; omega
theorem ca_ge (l : List Int) (i : Nat) (k : Int) : i ≤ ca l i k := by unfold ca; omega
theorem ca_same {l : List Int} {i : Nat} (h : i < l.length) : ca l i l[i] = i := by
  unfold ca; rw [List.drop_eq_getElem_cons h, List.idxOf_cons]; simp
theorem ca_next {l : List Int} {i : Nat} {k : Int} (h : i < l.length) (hk : l[i] ≠ k) : ca l i k = ca l (i + 1) k := by
  unfold ca; rw [List.drop_eq_getElem_cons h, List.idxOf_cons]
  have : (l[i] == k) = false := by simpa using hk
  simp only [this, cond_false]; omega
theorem ca_end (l : List Int) (k : Int) : ca l l.length k = l.length := by unfold ca; simp
theorem ca_found {l : List Int} {i j : Nat} {k : Int} (hj : j < l.length) (hij : i ≤ j) (hk : l[j] = k) (hn : ∀ q (h : q < l.length), i ≤ q → q < j → l[q] ≠ k) : ca l i k = j := by
  obtain ⟨d, rfl⟩ : ∃ d, j = i + d := ⟨j - i, by omega⟩
  induction d generalizing i with
  | zero => subst hk; exact ca_same hj
  | succ d ih =>
    rw [ca_next (by omega) (hn i (by omega) (by omega) (by omega))]
    have := ih (i := i + 1) (by omega) (by omega) (by rw [← hk]; congr 1; omega) (fun q h h1 h2 => hn q h (by omega) (by omega))
    omega
theorem ca_none {l : List Int} {i : Nat} {k : Int} (hi : i ≤ l.length) (hn : ∀ q (h : q < l.length), i ≤ q → l[q] ≠ k) : ca l i k = l.length := by
  have h1 := ca_le k hi
  rcases Nat.lt_or_ge (ca l i k) l.length with h | h
  · exfalso
    unfold ca at h
    have h2 : (l.drop i).idxOf k < (l.drop i).length := by simp only [List.length_drop]; omega
    have h3 := List.getElem_idxOf h2
    rw [List.getElem_drop] at h3
    exact hn _ h (by omega) h3
  · omega
/-- better to go: comes again later, or as late and smaller -/
def later (l : List Int) (i : Nat) (a b : Int) : Bool := decide (ca l i b < ca l i a) || (decide (ca l i a = ca l i b) && decide (a < b))
def bestTo (l : List Int) (i : Nat) (C : List Int) : Nat → Nat
  | 0 => 0
  | k + 1 => if later l i (C.getD k 0) (C.getD (bestTo l i C k) 0) then k else bestTo l i C k
def best (l : List Int) (i : Nat) (C : List Int) : Nat := bestTo l i C C.length
/-- who goes -/
structure Far (l : List Int) (i : Nat) (C : List Int) (f : Int) : Prop where
  mem : f ∈ C
  far : ∀ c ∈ C, later l i c f = false
theorem later_total {l : List Int} {i : Nat} {a b : Int} (h1 : later l i a b = false) (h2 : later l i b a = false) : a = b := by
  simp [later] at h1 h2; omega
theorem later_trans {l : List Int} {i : Nat} {a b c : Int} (h1 : later l i a b = false) (h2 : later l i b c = true) : later l i a c = false ∨ later l i a c = true := by
  cases later l i a c <;> simp
theorem Far.uniq {l : List Int} {i : Nat} {C D : List Int} {f g : Int} (h : Far l i C f) (h2 : Far l i D g) (hs : ∀ x, x ∈ C ↔ x ∈ D) : f = g :=
  later_total (h2.far f ((hs f).1 h.mem)) (h.far g ((hs g).2 h2.mem))
theorem bestTo_lt {l : List Int} {i : Nat} {C : List Int} : ∀ k, k ≤ C.length → 0 < C.length → bestTo l i C k < C.length
  | 0, _, h => h
  | k + 1, hk, h => by
    rw [bestTo]; split
    · omega
    · exact bestTo_lt k (by omega) h
theorem bestTo_far {l : List Int} {i : Nat} {C : List Int} : ∀ k, k ≤ C.length → ∀ j (hj : j < C.length), j < k → later l i C[j] (C.getD (bestTo l i C k) 0) = false
  | 0, _, _, _, h => absurd h (by omega)
  | k + 1, hk, j, hj, hjk => by
    rw [bestTo]
    have ih := bestTo_far (l := l) (i := i) (C := C) k (by omega) j hj
    have e : (C.getD k 0) = C[k] := by simp [List.getD, show k < C.length by omega]
    split
    · rename_i h
      rw [e] at h ⊢
      by_cases hjk2 : j = k
      · subst hjk2; simp [later]
      · have h3 := ih (by omega)
        simp [later] at h h3 ⊢; omega
    · rename_i h
      by_cases hjk2 : j = k
      · subst hjk2; rw [e] at h; simpa using h
      · exact ih (by omega)
theorem best_lt {l : List Int} {i : Nat} {C : List Int} (h : 0 < C.length) : best l i C < C.length := bestTo_lt _ (Nat.le_refl _) h
theorem best_far {l : List Int} {i : Nat} {C : List Int} (h : 0 < C.length) : Far l i C (C[best l i C]'(best_lt h)) := by
  refine ⟨List.getElem_mem _, fun c hc => ?_⟩
  obtain ⟨j, hj, rfl⟩ := List.getElem_of_mem hc
  have := bestTo_far (l := l) (i := i) C.length (Nat.le_refl _) j hj hj
  have e : (C.getD (bestTo l i C C.length) 0) = C[best l i C]'(best_lt h) := by simp [best, List.getD, show bestTo l i C C.length < C.length from best_lt h]
  rw [e] at this; exact this
/-- a step: who is in, who goes, is it a miss -/
def step (l : List Int) (room : Int) (i : Nat) (C : List Int) : List Int × Int × Int :=
  if l.getD i 0 ∈ C then (C, -1, 0) else if (C.length : Int) < room then (C ++ [l.getD i 0], -1, 1) else (C.set (best l i C) (l.getD i 0), C.getD (best l i C) 0, 1)
def go (l : List Int) (room : Int) : Nat → List Int × List Int × Int
  | 0 => ([], [], 0)
  | i + 1 => ((step l room i (go l room i).1).1, (go l room i).2.1 ++ [(step l room i (go l room i).1).2.1], (go l room i).2.2 + (step l room i (go l room i).1).2.2)
def evErr (l : List Int) (room : Int) : Int := if Lru.trace l = 0 then (if Lru.okRoom room then 0 else 3) else Lru.trace l
def ev (l : List Int) (room : Int) : List Int × Int := if evErr l room = 0 then (go l room l.length).2 else ([], 0)
def nextErr (l : List Int) (i : Int) : Int := if Lru.trace l = 0 then (if i < 0 ∨ (l.length : Int) ≤ i then 3 else 0) else Lru.trace l
def next (l : List Int) (i : Int) : Int := if nextErr l i = 0 then (ca l (i.toNat + 1) (l.getD i.toNat 0) : Int) else 0
def boundErr (misses room least : Int) : Int := if ((misses < 0 ∨ 200 < misses) ∨ Lru.okRoom room = false) ∨ Lru.okRoom least = false then 3 else if room < least then 4 else 0
def bound (misses room least : Int) : Int := if boundErr misses room least = 0 then (room * misses).tdiv (room - least + 1) + room else 0
/-! ### misses are the fewest -/
theorem mem_take_iff {t : List Int} {x : Int} {T : Nat} : x ∈ t.take T ↔ t.idxOf x < T ∧ t.idxOf x < t.length := by
  induction t generalizing T with
  | nil => simp
  | cons a t ih =>
    cases T with
    | zero => simp
    | succ T =>
      rw [List.take_succ_cons, List.mem_cons, List.idxOf_cons, ih]
      by_cases e : a = x
      · subst e; simp
      · have e1 : (a == x) = false := by simpa using e
        have e2 : ¬ x = a := fun h => e h.symm
        simp only [e1, cond_false, e2, false_or, List.length_cons]; omega
structure GInv (l : List Int) (room : Int) (i : Nat) : Prop where
  nodup : (go l room i).1.Nodup
  len : ((go l room i).1.length : Int) ≤ room
  glen : (go l room i).2.1.length = i
  n0 : 0 ≤ (go l room i).2.2
  n1 : (go l room i).2.2 ≤ (i : Int)
theorem nodup_set {C : List Int} {j : Nat} {k : Int} (hn : C.Nodup) (hk : k ∉ C) (hj : j < C.length) : (C.set j k).Nodup := by
  rw [List.nodup_iff_pairwise_ne, List.pairwise_iff_getElem]
  have h := List.pairwise_iff_getElem.1 hn
  intro a b ha hb hab
  simp only [List.length_set] at ha hb
  rw [List.getElem_set, List.getElem_set]
  split
  · split
    · omega
    · exact fun e => hk (e ▸ List.getElem_mem hb)
  · split
    · exact fun e => hk (e ▸ List.getElem_mem ha)
    · exact h a b ha hb hab
theorem mem_set' {C : List Int} {j : Nat} {k : Int} (hn : C.Nodup) (hj : j < C.length) (x : Int) : x ∈ C.set j k ↔ x = k ∨ x ∈ C ∧ x ≠ C[j] := by
  rw [List.mem_iff_getElem]
  constructor
  · rintro ⟨a, ha, rfl⟩
    simp only [List.length_set] at ha
    rw [List.getElem_set]
    split
    · exact .inl rfl
    · rename_i hne
      refine .inr ⟨List.getElem_mem ha, fun e => ?_⟩
      have h := List.pairwise_iff_getElem.1 hn
      rcases Nat.lt_or_gt_of_ne hne with h1 | h1
      · exact h j a hj ha h1 e.symm
      · exact h a j ha hj h1 e
  · rintro (rfl | ⟨hx, hne⟩)
    · exact ⟨j, by simpa using hj, by simp⟩
    · obtain ⟨a, ha, rfl⟩ := List.getElem_of_mem hx
      refine ⟨a, by simpa using ha, ?_⟩
      rw [List.getElem_set_ne]
      rintro rfl; exact hne rfl
theorem getD_eq {l : List Int} {i : Nat} (h : i < l.length) : l.getD i 0 = l[i] := by simp [List.getD, h]
theorem step_cases (l : List Int) (room : Int) (i : Nat) (C : List Int) (hi : i < l.length) (hr : 1 ≤ room) : (l[i] ∈ C ∧ step l room i C = (C, -1, 0)) ∨ (l[i] ∉ C ∧ (C.length : Int) < room ∧ step l room i C = (C ++ [l[i]], -1, 1)) ∨ (l[i] ∉ C ∧ room ≤ (C.length : Int) ∧ ∃ h : best l i C < C.length, step l room i C = (C.set (best l i C) l[i], C[best l i C], 1)) := by
  unfold step; rw [getD_eq hi]
  by_cases h1 : l[i] ∈ C
  · exact .inl ⟨h1, if_pos h1⟩
  · rw [if_neg h1]
    by_cases h2 : (C.length : Int) < room
    · exact .inr (.inl ⟨h1, h2, if_pos h2⟩)
    · have h3 := best_lt (l := l) (i := i) (C := C) (by omega)
      exact .inr (.inr ⟨h1, by omega, h3, by rw [if_neg h2, getD_eq h3]⟩)
theorem GInv.all {l : List Int} {room : Int} (hr : 1 ≤ room) : ∀ i, i ≤ l.length → GInv l room i
  | 0, _ => ⟨List.nodup_nil, by simp [go]; omega, rfl, by simp [go], by simp [go]⟩
  | i + 1, hi => by
    have ih := GInv.all (l := l) hr i (by omega)
    obtain ⟨a, b, c, d, e⟩ := ih
    have hc := step_cases l room i (go l room i).1 (by omega) hr
    rcases hc with ⟨h1, h2⟩ | ⟨h1, h3, h2⟩ | ⟨h1, h3, h4, h2⟩
    · refine ⟨?_, ?_, ?_, ?_, ?_⟩ <;> rw [go, h2]
      · exact a
      · exact b
      · simp [c]
      · simp only; omega
      · simp only; omega
    · refine ⟨?_, ?_, ?_, ?_, ?_⟩ <;> rw [go, h2]
      · simp only [List.nodup_append]; exact ⟨a, by simp, fun x hx y hy e => h1 (by simp at hy; subst hy; exact e ▸ hx)⟩
      · simp only [List.length_append, List.length_singleton]; omega
      · simp [c]
      · simp only; omega
      · simp only; omega
    · refine ⟨?_, ?_, ?_, ?_, ?_⟩ <;> rw [go, h2]
      · exact nodup_set a h1 h4
      · simp only [List.length_set]; exact b
      · simp [c]
      · simp only; omega
      · simp only; omega
/-- The remaining misses. -/
def left (l : List Int) (room : Int) : Nat → Nat → List Int → Nat
  | 0, _, _ => 0
  | n + 1, i, C => (step l room i C).2.2.toNat + left l room n (i + 1) (step l room i C).1
theorem left_go {l : List Int} {room : Int} (hr : 1 ≤ room) : ∀ n i, i + n = l.length → (go l room l.length).2.2 = (go l room i).2.2 + (left l room n i (go l room i).1 : Int)
  | 0, i, h => by rw [Nat.add_zero] at h; subst h; simp [left]
  | n + 1, i, h => by
    have ih := left_go (l := l) hr n (i + 1) (by omega)
    rw [ih, left, go]
    rcases step_cases l room i (go l room i).1 (by omega) hr with ⟨_, h2⟩ | ⟨_, _, h2⟩ | ⟨_, _, _, h2⟩ <;> rw [h2] <;> simp <;> omega
theorem left_opt {l : List Int} {room : Int} (hr : 1 ≤ room) : ∀ n i (C : List Int), i + n = l.length → C.Nodup → (C.length : Int) ≤ room → Belady.Opt room.toNat C (l.drop i) (left l room n i C)
  | 0, i, C, h, _, _ => by rw [Nat.add_zero] at h; subst h; rw [List.drop_length]; exact .nil C
  | n + 1, i, C, h, hn, hl => by
    have hi : i < l.length := by omega
    rw [List.drop_eq_getElem_cons hi, left]
    rcases step_cases l room i C hi hr with ⟨h1, h2⟩ | ⟨h1, h3, h2⟩ | ⟨h1, h3, h4, h2⟩ <;> rw [h2]
    · have := left_opt (l := l) hr n (i + 1) C (by omega) hn hl
      simpa using Belady.Opt.hit h1 hn (fun x => Iff.rfl) this
    · have hn2 : (C ++ [l[i]]).Nodup := by
        rw [List.nodup_append]; exact ⟨hn, by simp, fun x hx y hy e => h1 (by simp at hy; subst hy; exact e ▸ hx)⟩
      have := left_opt (l := l) hr n (i + 1) (C ++ [l[i]]) (by omega) hn2 (by simp only [List.length_append, List.length_singleton]; omega)
      have := Belady.Opt.add (room := room.toNat) h1 (by omega) hn2 (fun x => by simp [or_comm]) this
      simpa [Nat.add_comm] using this
    · have hn2 := nodup_set (j := best l i C) hn h1 h4
      have := left_opt (l := l) hr n (i + 1) (C.set (best l i C) l[i]) (by omega) hn2 (by simpa using hl)
      have hf := best_far (l := l) (i := i) (C := C) (by omega)
      have := Belady.Opt.evict (room := room.toNat) h1 (by omega) hf.mem (fun T hT c hc => ?_) hn2 (mem_set' hn h4) this
      · simpa [Nat.add_comm] using this
      · rw [mem_take_iff] at hT ⊢
        have h5 := hf.far c hc
        have e1 : ca l i c = i + 1 + (l.drop (i + 1)).idxOf c := ca_next hi (fun e => h1 (e ▸ hc))
        have e2 : ca l i C[best l i C] = i + 1 + (l.drop (i + 1)).idxOf C[best l i C] := ca_next hi (fun e => h1 (e ▸ hf.mem))
        simp [later] at h5
        omega
theorem go_opt {l : List Int} {room : Int} (hr : 1 ≤ room) : Belady.Opt room.toNat [] l (go l room l.length).2.2.toNat := by
  have h1 := left_go (l := l) hr l.length 0 (by omega)
  have h2 := left_opt (l := l) hr l.length 0 [] (by omega) List.nodup_nil (by simp; omega)
  have e : (go l room l.length).2.2.toNat = left l room l.length 0 [] := by
    rw [h1]; simp only [go]; omega
  rw [e]; simpa using h2
end Go.Sx.Opt
