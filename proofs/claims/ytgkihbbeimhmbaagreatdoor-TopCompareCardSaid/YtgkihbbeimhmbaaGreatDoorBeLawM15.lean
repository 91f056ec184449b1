/- Belady: no replacement has fewer misses than the one that removes what comes again last. -/
import Derived.Test.YtgkihbbeimhmbaaGreatDoorSx12M17
namespace Go.Sx.Belady
theorem nodup_le : ∀ {l m : List Int}, l.Nodup → (∀ x ∈ l, x ∈ m) → l.length ≤ m.length
  | [], _, _, _ => Nat.zero_le _
  | x :: l, m, hn, hs => by
    obtain ⟨h1, h2⟩ := List.nodup_cons.1 hn
    have hx : x ∈ m := hs x (by simp)
    have ih := nodup_le (l := l) (m := m.erase x) h2 (fun y hy => by
      have hne : y ≠ x := fun e => h1 (e ▸ hy)
      exact (List.mem_erase_of_ne hne).2 (hs y (by simp [hy])))
    have := List.length_erase_of_mem hx
    have := List.length_pos_of_mem hx
    simp only [List.length_cons]; omega
/-- how many of C, other than k, come in p -/
def rest (C : List Int) (k : Int) (p : List Int) : Nat := (C.filter fun c => decide (c ≠ k ∧ c ∈ p)).length
def cnt (C : List Int) (p : List Int) : Nat := (C.filter fun c => decide (c ∈ p)).length
theorem rest_le {C D : List Int} {k : Int} (p : List Int) (hn : D.Nodup) (h : ∀ x ∈ D, x = k ∨ x ∈ C) : rest D k p ≤ rest C k p := by
  refine nodup_le (hn.filter _) fun x hx => ?_
  simp only [List.mem_filter, decide_eq_true_eq] at hx ⊢
  exact ⟨(h x hx.1).resolve_left hx.2.1, hx.2⟩
theorem rest_lt {D : List Int} {k : Int} (p : List Int) (hn : D.Nodup) (hk : k ∈ D) : rest D k p + 1 ≤ D.length := by
  have h : (k :: D.filter fun c => decide (c ≠ k ∧ c ∈ p)).length ≤ D.length := by
    refine nodup_le (List.nodup_cons.2 ⟨by simp, hn.filter _⟩) fun x hx => ?_
    rcases List.mem_cons.1 hx with rfl | hx
    · exact hk
    · exact (List.mem_filter.1 hx).1
  simpa [rest] using h
theorem rest_all {C : List Int} {k : Int} {p : List Int} (hn : C.Nodup) (hk : k ∈ C) (h : ∀ x ∈ C, x ≠ k → x ∈ p) : rest C k p + 1 = C.length := by
  refine Nat.le_antisymm (rest_lt p hn hk) ?_
  have h2 : C.length ≤ (k :: C.filter fun c => decide (c ≠ k ∧ c ∈ p)).length := nodup_le hn fun x hx => by
    by_cases e : x = k
    · simp [e]
    · exact List.mem_cons_of_mem _ (by simp [hx, e, h x hx e])
  simpa [rest] using h2
theorem rest_cons (c : Int) (C : List Int) (k : Int) (p : List Int) : rest (c :: C) k p = (if c ≠ k ∧ c ∈ p then 1 else 0) + rest C k p := by
  unfold rest; rw [List.filter_cons]
  by_cases h : c ≠ k ∧ c ∈ p
  · rw [if_pos (by simpa using h), if_pos h]; simp only [List.length_cons]; omega
  · rw [if_neg (by simpa using h), if_neg h]; omega
theorem cnt_cons1 (c : Int) (C : List Int) (p : List Int) : cnt (c :: C) p = (if c ∈ p then 1 else 0) + cnt C p := by
  unfold cnt; rw [List.filter_cons]
  by_cases h : c ∈ p
  · rw [if_pos (by simpa using h), if_pos h]; simp only [List.length_cons]; omega
  · rw [if_neg (by simpa using h), if_neg h]; omega
theorem cnt_cons {C : List Int} {k : Int} (p : List Int) (hn : C.Nodup) : cnt C (k :: p) = (if k ∈ C then 1 else 0) + rest C k p := by
  induction C with
  | nil => simp [cnt, rest]
  | cons c C ih =>
    obtain ⟨h1, h2⟩ := List.nodup_cons.1 hn
    rw [cnt_cons1, rest_cons, ih h2]
    by_cases e : c = k
    · subst e; simp [h1]
    · have e' : ¬ k = c := fun h => e h.symm
      by_cases hp : c ∈ p <;> by_cases hk : k ∈ C <;> simp [e, e', hp, hk] <;> omega
theorem cnt_in {C : List Int} {k : Int} (p : List Int) (hn : C.Nodup) (hk : k ∈ C) : cnt C p = (if k ∈ p then 1 else 0) + rest C k p := by
  have key : ∀ {C : List Int}, C.Nodup → cnt C p = (if k ∈ p ∧ k ∈ C then 1 else 0) + rest C k p := by
    intro C hn
    induction C with
    | nil => simp [cnt, rest]
    | cons c C ih =>
      obtain ⟨h1, h2⟩ := List.nodup_cons.1 hn
      rw [cnt_cons1, rest_cons, ih h2]
      by_cases e : c = k
      · subst e; simp [h1]
      · have e' : ¬ k = c := fun h => e h.symm
        by_cases hp : c ∈ p <;> by_cases hk : k ∈ C <;> by_cases hq : k ∈ p <;> simp [e, e', hp, hk, hq] <;> omega
  rw [key hn]; simp [hk]
/-- Any replacement on demand, from the cache C. -/
inductive Run (room : Nat) : List Int → List Int → Nat → Prop
  | nil (C : List Int) : Run room C [] 0
  | hit {C C' : List Int} {k : Int} {t : List Int} {n : Nat} : k ∈ C → C'.Nodup → C'.length ≤ room → k ∈ C' → (∀ x ∈ C', x ∈ C) → Run room C' t n → Run room C (k :: t) n
  | miss {C C' : List Int} {k : Int} {t : List Int} {n : Nat} : k ∉ C → C'.Nodup → C'.length ≤ room → k ∈ C' → (∀ x ∈ C', x = k ∨ x ∈ C) → Run room C' t n → Run room C (k :: t) (n + 1)
/-- The one that removes what comes again last. -/
inductive Opt (room : Nat) : List Int → List Int → Nat → Prop
  | nil (C : List Int) : Opt room C [] 0
  | hit {C C' : List Int} {k : Int} {t : List Int} {n : Nat} : k ∈ C → C'.Nodup → (∀ x, x ∈ C' ↔ x ∈ C) → Opt room C' t n → Opt room C (k :: t) n
  | add {C C' : List Int} {k : Int} {t : List Int} {n : Nat} : k ∉ C → C.length < room → C'.Nodup → (∀ x, x ∈ C' ↔ x = k ∨ x ∈ C) → Opt room C' t n → Opt room C (k :: t) (n + 1)
  | evict {C C' : List Int} {k f : Int} {t : List Int} {n : Nat} : k ∉ C → C.length = room → f ∈ C → (∀ T, f ∈ t.take T → ∀ c ∈ C, c ∈ t.take T) → C'.Nodup → (∀ x, x ∈ C' ↔ x = k ∨ x ∈ C ∧ x ≠ f) → Opt room C' t n → Opt room C (k :: t) (n + 1)
theorem Run.mono {room room' : Nat} (h : room ≤ room') {C t : List Int} {n : Nat} (hr : Run room C t n) : Run room' C t n := by
  induction hr with
  | nil C => exact .nil C
  | hit a b c d e _ ih => exact .hit a b (by omega) d e ih
  | miss a b c d e _ ih => exact .miss a b (by omega) d e ih
theorem len_eq {C C' : List Int} (h1 : C.Nodup) (h2 : C'.Nodup) (h : ∀ x, x ∈ C' ↔ x ∈ C) : C'.length = C.length :=
  Nat.le_antisymm (nodup_le h2 fun x hx => (h x).1 hx) (nodup_le h1 fun x hx => (h x).2 hx)
theorem len_add {C C' : List Int} {k : Int} (h1 : C.Nodup) (h2 : C'.Nodup) (hk : k ∉ C) (h : ∀ x, x ∈ C' ↔ x = k ∨ x ∈ C) : C'.length = C.length + 1 := by
  have := len_eq (C := k :: C) (List.nodup_cons.2 ⟨hk, h1⟩) h2 (fun x => by rw [h x]; simp)
  simpa using this
theorem len_evict {C C' : List Int} {k f : Int} (h1 : C.Nodup) (h2 : C'.Nodup) (hk : k ∉ C) (hf : f ∈ C) (h : ∀ x, x ∈ C' ↔ x = k ∨ x ∈ C ∧ x ≠ f) : C'.length = C.length := by
  have := len_add (C := C.erase f) (k := k) (h1.erase _) h2 (fun hm => hk (List.mem_of_mem_erase hm)) (fun x => by rw [h x, h1.mem_erase_iff]; simp [and_comm])
  rw [this, List.length_erase_of_mem hf]
  have := List.length_pos_of_mem hf
  omega
theorem Opt.run {room : Nat} {C t : List Int} {n : Nat} (hr : Opt room C t n) : C.Nodup → C.length ≤ room → Run room C t n := by
  induction hr with
  | nil C => exact fun _ _ => .nil C
  | hit a b c _ ih => exact fun h1 h2 => .hit a b (by rw [len_eq h1 b c]; exact h2) ((c _).2 a) (fun x hx => (c x).1 hx) (ih b (by rw [len_eq h1 b c]; exact h2))
  | add a b c d _ ih => exact fun h1 h2 => .miss a c (by rw [len_add h1 c a d]; omega) ((d _).2 (.inl rfl)) (fun x hx => (d x).1 hx) (ih c (by rw [len_add h1 c a d]; omega))
  | evict a b c _ d e _ ih => exact fun h1 h2 => .miss a d (by rw [len_evict h1 d a c e]; omega) ((e _).2 (.inl rfl)) (fun x hx => ((e x).1 hx).imp id (·.1)) (ih d (by rw [len_evict h1 d a c e]; omega))
/-- Belady, with what one is behind the other. -/
theorem belady_slack {room : Nat} : ∀ {t C D : List Int} {m n s : Nat}, Opt room C t m → Run room D t n → C.Nodup → D.Nodup → C.length ≤ room → D.length ≤ room → (∀ T, cnt D (t.take T) ≤ cnt C (t.take T) + s) → m ≤ n + s := by
  intro t
  induction t with
  | nil => intro C D m n s hO hR _ _ _ _ _; cases hO; omega
  | cons k t ih =>
    intro C D m n s hO hR hC hD lC lD hc
    have hc' : ∀ T, (if k ∈ D then 1 else 0) + rest D k (t.take T) ≤ (if k ∈ C then 1 else 0) + rest C k (t.take T) + s := fun T => by
      have := hc (T + 1)
      rw [List.take_succ_cons, cnt_cons _ hC, cnt_cons _ hD] at this
      omega
    -- behind: what both have then, compared
    have fin : ∀ {C' D' : List Int} {m' n' s' : Nat}, Opt room C' t m' → Run room D' t n' → C'.Nodup → D'.Nodup → C'.length ≤ room → D'.length ≤ room → k ∈ C' → k ∈ D' → (∀ T, rest D' k (t.take T) ≤ rest C' k (t.take T) + s') → m' ≤ n' + s' := fun a b c d e f g h i => ih a b c d e f fun T => by
      rw [cnt_in _ d h, cnt_in _ c g]; have := i T; omega
    have h0 : rest D k (t.take 0) = 0 ∧ rest C k (t.take 0) = 0 := by simp [rest]
    have h00 := hc' 0
    -- what the other has then
    obtain ⟨D', n', hR', dD', lD', kD', sD', hn⟩ : ∃ D' n', Run room D' t n' ∧ D'.Nodup ∧ D'.length ≤ room ∧ k ∈ D' ∧ (∀ x ∈ D', x = k ∨ x ∈ D) ∧ n = n' + (if k ∈ D then 0 else 1) := by
      cases hR with
      | hit a b c d e f => exact ⟨_, _, f, b, c, d, fun x hx => .inr (e x hx), by simp [a]⟩
      | miss a b c d e f => exact ⟨_, _, f, b, c, d, e, by simp [a]⟩
    have hDr : ∀ T, rest D' k (t.take T) ≤ rest D k (t.take T) := fun T => rest_le _ dD' sD'
    have hDl : ∀ T, rest D' k (t.take T) + 1 ≤ room := fun T => Nat.le_trans (rest_lt _ dD' kD') lD'
    cases hO with
    | hit a b c d =>
      have hCr : ∀ T, rest C k (t.take T) ≤ rest _ k (t.take T) := fun T => rest_le (t.take T) hC (fun x hx => .inr ((c x).2 hx))
      simp only [a, if_true] at hc' h00
      by_cases hk : k ∈ D
      · simp only [hk, if_true] at hn hc'
        have := fin (s' := s) d hR' b dD' (by rw [len_eq hC b c]; exact lC) lD' ((c k).2 a) kD' (fun T => by have := hc' T; have := hDr T; have := hCr T; omega)
        omega
      · simp only [hk, if_false] at hn hc'
        have := fin (s' := s + 1) d hR' b dD' (by rw [len_eq hC b c]; exact lC) lD' ((c k).2 a) kD' (fun T => by have := hc' T; have := hDr T; have := hCr T; omega)
        omega
    | add a b c d e =>
      have hCr : ∀ T, rest C k (t.take T) ≤ rest _ k (t.take T) := fun T => rest_le (t.take T) hC (fun x hx => .inr ((d x).2 (.inr hx)))
      simp only [a, if_false] at hc' h00
      have hl := len_add hC c a d
      by_cases hk : k ∈ D
      · simp only [hk, if_true] at hn hc' h00
        have := fin (s' := s - 1) e hR' c dD' (by omega) lD' ((d k).2 (.inl rfl)) kD' (fun T => by have := hc' T; have := hDr T; have := hCr T; omega)
        omega
      · simp only [hk, if_false] at hn hc'
        have := fin (s' := s) e hR' c dD' (by omega) lD' ((d k).2 (.inl rfl)) kD' (fun T => by have := hc' T; have := hDr T; have := hCr T; omega)
        omega
    | @evict _ C' _ f _ m' a b g far c d e =>
      have hl := len_evict hC c a g d
      have hkC := (d k).2 (.inl rfl)
      simp only [a, if_false] at hc' h00
      -- ahead of the next coming of what went: as before; behind it: all come
      have hCr : ∀ T, rest C k (t.take T) ≤ rest C' k (t.take T) ∨ rest C' k (t.take T) + 1 = room := fun T => by
        by_cases hf : f ∈ t.take T
        · right
          rw [rest_all c hkC (fun x hx hxk => far T hf x (((d x).1 hx).resolve_left hxk).1)]; omega
        · left
          refine nodup_le (hC.filter _) fun x hx => ?_
          simp only [List.mem_filter, decide_eq_true_eq] at hx ⊢
          exact ⟨(d x).2 (.inr ⟨hx.1, fun e => hf (e ▸ hx.2.2)⟩), hx.2⟩
      by_cases hk : k ∈ D
      · simp only [hk, if_true] at hn hc' h00
        have := fin (s' := s - 1) e hR' c dD' (by omega) lD' hkC kD' (fun T => by have := hc' T; have := hDr T; have := hDl T; rcases hCr T with h | h <;> omega)
        omega
      · simp only [hk, if_false] at hn hc'
        have := fin (s' := s) e hR' c dD' (by omega) lD' hkC kD' (fun T => by have := hc' T; have := hDr T; have := hDl T; rcases hCr T with h | h <;> omega)
        omega
theorem belady {room : Nat} {t : List Int} {m n : Nat} (h : Opt room [] t m) (hr : Run room [] t n) : m ≤ n :=
  belady_slack (s := 0) h hr List.nodup_nil List.nodup_nil (Nat.zero_le _) (Nat.zero_le _) (fun _ => Nat.le_refl _)
end Go.Sx.Belady

/- The optimal policy: the plain functions. -/
namespace Go.Sx.Opt
open Belady (Run)
/-- when a key comes again, from a place on -/
def ca (l : List Int) (i : Nat) (k : Int) : Nat := i + (l.drop i).idxOf k
theorem ca_le {l : List Int} {i : Nat} (k : Int) (h : i ≤ l.length) : ca l i k ≤ l.length := by
  have := List.idxOf_le_length (a := k) (l := l.drop i)
  simp only [List.length_drop] at this
  unfold ca; omega
theorem ca_ge (l : List Int) (i : Nat) (k : Int) : i ≤ ca l i k := by unfold ca; omega
theorem ca_same {l : List Int} {i : Nat} (h : i < l.length) : ca l i l[i] = i := by
  unfold ca; rw [List.drop_eq_getElem_cons h, List.idxOf_cons]; simp
theorem ca_next {l : List Int} {i : Nat} {k : Int} (h : i < l.length) (hk : l[i] ≠ k) : ca l i k = ca l (i + 1) k := by
  unfold ca; rw [List.drop_eq_getElem_cons h, List.idxOf_cons]
  have : (l[i] == k) = false := by simpa using hk
  simp only [this, cond_false]; omega
theorem ca_end (l : List Int) (k : Int) : ca l l.length k = l.length := by unfold ca; simp
theorem ca_found {l : List Int} {i j : Nat} {k : Int} (hj : j < l.length) (hij : i ≤ j) (hk : l[j] = k) (hn : ∀ q (h : q < l.length), i ≤ q → q < j → l[q] ≠ k) : ca l i k = j := by
  obtain ⟨d, rfl⟩ : ∃ d, j = i + d := ⟨j - i, by omega⟩
  induction d generalizing i with
  | zero => subst hk; exact ca_same hj
  | succ d ih =>
    rw [ca_next (by omega) (hn i (by omega) (by omega) (by omega))]
    have := ih (i := i + 1) (by omega) (by omega) (by rw [← hk]; congr 1; omega) (fun q h h1 h2 => hn q h (by omega) (by omega))
    omega
theorem ca_none {l : List Int} {i : Nat} {k : Int} (hi : i ≤ l.length) (hn : ∀ q (h : q < l.length), i ≤ q → l[q] ≠ k) : ca l i k = l.length := by
  have h1 := ca_le k hi
  rcases Nat.lt_or_ge (ca l i k) l.length with h | h
  · exfalso
    unfold ca at h
    have h2 : (l.drop i).idxOf k < (l.drop i).length := by simp only [List.length_drop]; omega
    have h3 := List.getElem_idxOf h2
    rw [List.getElem_drop] at h3
    exact hn _ h (by omega) h3
  · omega
/-- better to go: comes again later, or as late and smaller -/
def later (l : List Int) (i : Nat) (a b : Int) : Bool := decide (ca l i b < ca l i a) || (decide (ca l i a = ca l i b) && decide (a < b))
def bestTo (l : List Int) (i : Nat) (C : List Int) : Nat → Nat
  | 0 => 0
  | k + 1 => if later l i (C.getD k 0) (C.getD (bestTo l i C k) 0) then k else bestTo l i C k
def best (l : List Int) (i : Nat) (C : List Int) : Nat := bestTo l i C C.length
/-- who goes -/
structure Far (l : List Int) (i : Nat) (C : List Int) (f : Int) : Prop where
  mem : f ∈ C
  far : ∀ c ∈ C, later l i c f = false
theorem later_total {l : List Int} {i : Nat} {a b : Int} (h1 : later l i a b = false) (h2 : later l i b a = false) : a = b := by
  simp [later] at h1 h2; omega
theorem later_trans {l : List Int} {i : Nat} {a b c : Int} (h1 : later l i a b = false) (h2 : later l i b c = true) : later l i a c = false ∨ later l i a c = true := by
  cases later l i a c <;> simp
theorem Far.uniq {l : List Int} {i : Nat} {C D : List Int} {f g : Int} (h : Far l i C f) (h2 : Far l i D g) (hs : ∀ x, x ∈ C ↔ x ∈ D) : f = g :=
  later_total (h2.far f ((hs f).1 h.mem)) (h.far g ((hs g).2 h2.mem))
theorem bestTo_lt {l : List Int} {i : Nat} {C : List Int} : ∀ k, k ≤ C.length → 0 < C.length → bestTo l i C k < C.length
  | 0, _, h => h
  | k + 1, hk, h => by
    rw [bestTo]; split
    · omega
    · exact bestTo_lt k (by omega) h
theorem bestTo_far {l : List Int} {i : Nat} {C : List Int} : ∀ k, k ≤ C.length → ∀ j (hj : j < C.length), j < k → later l i C[j] (C.getD (bestTo l i C k) 0) = false
  | 0, _, _, _, h => absurd h (by omega)
  | k + 1, hk, j, hj, hjk => by
    rw [bestTo]
    have ih := bestTo_far (l := l) (i := i) (C := C) k (by omega) j hj
    have e : (C.getD k 0) = C[k] := by simp [List.getD, show k < C.length by omega]
    split
    · rename_i h
      rw [e] at h ⊢
      by_cases hjk2 : j = k
      · subst hjk2; simp [later]
      · have h3 := ih (by omega)
        simp [later] at h h3 ⊢; omega
    · rename_i h
      by_cases hjk2 : j = k
      · subst hjk2; rw [e] at h; simpa using h
      · exact ih (by omega)
theorem best_lt {l : List Int} {i : Nat} {C : List Int} (h : 0 < C.length) : best l i C < C.length := bestTo_lt _ (Nat.le_refl _) h
theorem best_far {l : List Int} {i : Nat} {C : List Int} (h : 0 < C.length) : Far l i C (C[best l i C]'(best_lt h)) := by
  refine ⟨List.getElem_mem _, fun c hc => ?_⟩
  obtain ⟨j, hj, rfl⟩ := List.getElem_of_mem hc
  have := bestTo_far (l := l) (i := i) C.length (Nat.le_refl _) j hj hj
  have e : (C.getD (bestTo l i C C.length) 0) = C[best l i C]'(best_lt h) := by simp [best, List.getD, show bestTo l i C C.length < C.length from best_lt h]
  rw [e] at this; exact this
/-- a step: who is in, who goes, is it a miss -/
def step (l : List Int) (room : Int) (i : Nat) (C : List Int) : List Int × Int × Int :=
  if l.getD i 0 ∈ C then (C, -1, 0) else if (C.length : Int) < room then (C ++ [l.getD i 0], -1, 1) else (C.set (best l i C) (l.getD i 0), C.getD (best l i C) 0, 1)
def go (l : List Int) (room : Int) : Nat → List Int × List Int × Int
  | 0 => ([], [], 0)
  | i + 1 => ((step l room i (go l room i).1).1, (go l room i).2.1 ++ [(step l room i (go l room i).1).2.1], (go l room i).2.2 + (step l room i (go l room i).1).2.2)
def evErr (l : List Int) (room : Int) : Int := if Lru.trace l = 0 then (if Lru.okRoom room then 0 else 3) else Lru.trace l
def ev (l : List Int) (room : Int) : List Int × Int := if evErr l room = 0 then (go l room l.length).2 else ([], 0)
def nextErr (l : List Int) (i : Int) : Int := if Lru.trace l = 0 then (if i < 0 ∨ (l.length : Int) ≤ i then 3 else 0) else Lru.trace l
def next (l : List Int) (i : Int) : Int := if nextErr l i = 0 then (ca l (i.toNat + 1) (l.getD i.toNat 0) : Int) else 0
def boundErr (misses room least : Int) : Int := if ((misses < 0 ∨ 200 < misses) ∨ Lru.okRoom room = false) ∨ Lru.okRoom least = false then 3 else if room < least then 4 else 0
def bound (misses room least : Int) : Int := if boundErr misses room least = 0 then (room * misses).tdiv (room - least + 1) + room else 0
/-! ### misses are the fewest -/
theorem mem_take_iff {t : List Int} {x : Int} {T : Nat} : x ∈ t.take T ↔ t.idxOf x < T ∧ t.idxOf x < t.length := by
  induction t generalizing T with
  | nil => simp
  | cons a t ih =>
    cases T with
    | zero => simp
    | succ T =>
      rw [List.take_succ_cons, List.mem_cons, List.idxOf_cons, ih]
      by_cases e : a = x
      · subst e; simp
      · have e1 : (a == x) = false := by simpa using e
        have e2 : ¬ x = a := fun h => e h.symm
        simp only [e1, cond_false, e2, false_or, List.length_cons]; omega
structure GInv (l : List Int) (room : Int) (i : Nat) : Prop where
  nodup : (go l room i).1.Nodup
  len : ((go l room i).1.length : Int) ≤ room
  glen : (go l room i).2.1.length = i
  n0 : 0 ≤ (go l room i).2.2
  n1 : (go l room i).2.2 ≤ (i : Int)
theorem nodup_set {C : List Int} {j : Nat} {k : Int} (hn : C.Nodup) (hk : k ∉ C) (hj : j < C.length) : (C.set j k).Nodup := by
  rw [List.nodup_iff_pairwise_ne, List.pairwise_iff_getElem]
  have h := List.pairwise_iff_getElem.1 hn
  intro a b ha hb hab
  simp only [List.length_set] at ha hb
  rw [List.getElem_set, List.getElem_set]
  split
  · split
    · omega
    · exact fun e => hk (e ▸ List.getElem_mem hb)
  · split
    · exact fun e => hk (e ▸ List.getElem_mem ha)
    · exact h a b ha hb hab
theorem mem_set' {C : List Int} {j : Nat} {k : Int} (hn : C.Nodup) (hj : j < C.length) (x : Int) : x ∈ C.set j k ↔ x = k ∨ x ∈ C ∧ x ≠ C[j] := by
  rw [List.mem_iff_getElem]
  constructor
  · rintro ⟨a, ha, rfl⟩
    simp only [List.length_set] at ha
    rw [List.getElem_set]
    split
    · exact .inl rfl
    · rename_i hne
      refine .inr ⟨List.getElem_mem ha, fun e => ?_⟩
      have h := List.pairwise_iff_getElem.1 hn
      rcases Nat.lt_or_gt_of_ne hne with h1 | h1
      · exact h j a hj ha h1 e.symm
      · exact h a j ha hj h1 e
  · rintro (rfl | ⟨hx, hne⟩)
    · exact ⟨j, by simpa using hj, by simp⟩
    · obtain ⟨a, ha, rfl⟩ := List.getElem_of_mem hx
      refine ⟨a, by simpa using ha, ?_⟩
      rw [List.getElem_set_ne]
      rintro rfl; exact hne rfl
theorem getD_eq {l : List Int} {i : Nat} (h : i < l.length) : l.getD i 0 = l[i] := by simp [List.getD, h]
theorem step_cases (l : List Int) (room : Int) (i : Nat) (C : List Int) (hi : i < l.length) (hr : 1 ≤ room) : (l[i] ∈ C ∧ step l room i C = (C, -1, 0)) ∨ (l[i] ∉ C ∧ (C.length : Int) < room ∧ step l room i C = (C ++ [l[i]], -1, 1)) ∨ (l[i] ∉ C ∧ room ≤ (C.length : Int) ∧ ∃ h : best l i C < C.length, step l room i C = (C.set (best l i C) l[i], C[best l i C], 1)) := by
  unfold step; rw [getD_eq hi]
  by_cases h1 : l[i] ∈ C
  · exact .inl ⟨h1, if_pos h1⟩
  · rw [if_neg h1]
    by_cases h2 : (C.length : Int) < room
    · exact .inr (.inl ⟨h1, h2, if_pos h2⟩)
    · have h3 := best_lt (l := l) (i := i) (C := C) (by omega)
      exact .inr (.inr ⟨h1, by omega, h3, by rw [if_neg h2, getD_eq h3]⟩)
theorem GInv.all {l : List Int} {room : Int} (hr : 1 ≤ room) : ∀ i, i ≤ l.length → GInv l room i
  | 0, _ => ⟨List.nodup_nil, by simp [go]; omega, rfl, by simp [go], by simp [go]⟩
  | i + 1, hi => by
    have ih := GInv.all (l := l) hr i (by omega)
    obtain ⟨a, b, c, d, e⟩ := ih
    have hc := step_cases l room i (go l room i).1 (by omega) hr
    rcases hc with ⟨h1, h2⟩ | ⟨h1, h3, h2⟩ | ⟨h1, h3, h4, h2⟩
    · refine ⟨?_, ?_, ?_, ?_, ?_⟩ <;> rw [go, h2]
      · exact a
      · exact b
      · simp [c]
      · simp only; omega
      · simp only; omega
    · refine ⟨?_, ?_, ?_, ?_, ?_⟩ <;> rw [go, h2]
      · simp only [List.nodup_append]; exact ⟨a, by simp, fun x hx y hy e => h1 (by simp at hy; subst hy; exact e ▸ hx)⟩
      · simp only [List.length_append, List.length_singleton]; omega
      · simp [c]
      · simp only; omega
      · simp only; omega
    · refine ⟨?_, ?_, ?_, ?_, ?_⟩ <;> rw [go, h2]
      · exact nodup_set a h1 h4
      · simp only [List.length_set]; exact b
      · simp [c]
      · simp only; omega
      · simp only; omega
/-- The remaining misses. -/
def left (l : List Int) (room : Int) : Nat → Nat → List Int → Nat
  | 0, _, _ => 0
  | n + 1, i, C => (step l room i C).2.2.toNat + left l room n (i + 1) (step l room i C).1
theorem left_go {l : List Int} {room : Int} (hr : 1 ≤ room) : ∀ n i, i + n = l.length → (go l room l.length).2.2 = (go l room i).2.2 + (left l room n i (go l room i).1 : Int)
  | 0, i, h => by rw [Nat.add_zero] at h; subst h; simp [left]
  | n + 1, i, h => by
    have ih := left_go (l := l) hr n (i + 1) (by omega)
    rw [ih, left, go]
    rcases step_cases l room i (go l room i).1 (by omega) hr with ⟨_, h2⟩ | ⟨_, _, h2⟩ | ⟨_, _, _, h2⟩ <;> rw [h2] <;> simp <;> omega
theorem left_opt {l : List Int} {room : Int} (hr : 1 ≤ room) : ∀ n i (C : List Int), i + n = l.length → C.Nodup → (C.length : Int) ≤ room → Belady.Opt room.toNat C (l.drop i) (left l room n i C)
  | 0, i, C, h, _, _ => by rw [Nat.add_zero] at h; subst h; rw [List.drop_length]; exact .nil C
  | n + 1, i, C, h, hn, hl => by
    have hi : i < l.length := by omega
    rw [List.drop_eq_getElem_cons hi, left]
    rcases step_cases l room i C hi hr with ⟨h1, h2⟩ | ⟨h1, h3, h2⟩ | ⟨h1, h3, h4, h2⟩ <;> rw [h2]
    · have := left_opt (l := l) hr n (i + 1) C (by omega) hn hl
      simpa using Belady.Opt.hit h1 hn (fun x => Iff.rfl) this
    · have hn2 : (C ++ [l[i]]).Nodup := by
        rw [List.nodup_append]; exact ⟨hn, by simp, fun x hx y hy e => h1 (by simp at hy; subst hy; exact e ▸ hx)⟩
      have := left_opt (l := l) hr n (i + 1) (C ++ [l[i]]) (by omega) hn2 (by simp only [List.length_append, List.length_singleton]; omega)
      have := Belady.Opt.add (room := room.toNat) h1 (by omega) hn2 (fun x => by simp [or_comm]) this
      simpa [Nat.add_comm] using this
    · have hn2 := nodup_set (j := best l i C) hn h1 h4
      have := left_opt (l := l) hr n (i + 1) (C.set (best l i C) l[i]) (by omega) hn2 (by simpa using hl)
      have hf := best_far (l := l) (i := i) (C := C) (by omega)
      have := Belady.Opt.evict (room := room.toNat) h1 (by omega) hf.mem (fun T hT c hc => ?_) hn2 (mem_set' hn h4) this
      · simpa [Nat.add_comm] using this
      · rw [mem_take_iff] at hT ⊢
        have h5 := hf.far c hc
        have e1 : ca l i c = i + 1 + (l.drop (i + 1)).idxOf c := ca_next hi (fun e => h1 (e ▸ hc))
        have e2 : ca l i C[best l i C] = i + 1 + (l.drop (i + 1)).idxOf C[best l i C] := ca_next hi (fun e => h1 (e ▸ hf.mem))
        simp [later] at h5
        omega
theorem go_opt {l : List Int} {room : Int} (hr : 1 ≤ room) : Belady.Opt room.toNat [] l (go l room l.length).2.2.toNat := by
  have h1 := left_go (l := l) hr l.length 0 (by omega)
  have h2 := left_opt (l := l) hr l.length 0 [] (by omega) List.nodup_nil (by simp; omega)
  have e : (go l room l.length).2.2.toNat = left l room l.length 0 [] := by
    rw [h1]; simp only [go]; omega
  rw [e]; simpa using h2
end Go.Sx.Opt

/- The optimal policy: no choice of evictions has fewer misses. -/
namespace Go.Sx.Opt
open Belady (Run)
def few (room top : Int) : List Int → List Int → Int
  | _, [] => 0
  | C, k :: t => if k ∈ C then few room top C t else if (C.length : Int) < room then 1 + few room top (C ++ [k]) t else (List.range C.length).foldl (fun b j => if 1 + few room top (C.set j k) t < b then 1 + few room top (C.set j k) t else b) top
def fold (f : Nat → Int) (top : Int) (n : Nat) : Int := (List.range n).foldl (fun b j => if f j < b then f j else b) top
theorem fold_succ (f : Nat → Int) (top : Int) (n : Nat) : fold f top (n + 1) = if f n < fold f top n then f n else fold f top n := by
  unfold fold; rw [List.range_succ, List.foldl_append]; rfl
theorem fold_spec (f : Nat → Int) (top : Int) : ∀ n, (∀ j, j < n → fold f top n ≤ f j) ∧ fold f top n ≤ top ∧ (fold f top n = top ∨ ∃ j, j < n ∧ fold f top n = f j)
  | 0 => ⟨fun j h => absurd h (by omega), Int.le_refl _, .inl rfl⟩
  | n + 1 => by
    obtain ⟨a, b, c⟩ := fold_spec f top n
    rw [fold_succ]
    split
    · refine ⟨fun j hj => ?_, by omega, .inr ⟨n, by omega, rfl⟩⟩
      by_cases e : j = n
      · subst e; exact Int.le_refl _
      · have := a j (by omega); omega
    · refine ⟨fun j hj => ?_, b, ?_⟩
      · by_cases e : j = n
        · subst e; omega
        · exact a j (by omega)
      · rcases c with c | ⟨j, hj, c⟩
        · exact .inl c
        · exact .inr ⟨j, by omega, c⟩
theorem few_cons (room top : Int) (C : List Int) (k : Int) (t : List Int) : few room top C (k :: t) = if k ∈ C then few room top C t else if (C.length : Int) < room then 1 + few room top (C ++ [k]) t else fold (fun j => 1 + few room top (C.set j k) t) top C.length := by
  rw [few]; rfl
theorem few_le {room top : Int} (hr : 1 ≤ room) : ∀ {t C D : List Int} {m : Nat}, C.Nodup → D.Nodup → (∀ x, x ∈ D ↔ x ∈ C) → Belady.Opt room.toNat D t m → few room top C t ≤ m := by
  intro t
  induction t with
  | nil => intro C D m _ _ _ h; cases h; simp [few]
  | cons k t ih =>
    intro C D m hC hD hs h
    have hl := Belady.len_eq hC hD hs
    rw [few_cons]
    cases h with
    | hit a b c d => rw [if_pos ((hs k).1 a)]; exact ih hC b (fun x => (c x).trans (hs x)) d
    | add a b c d e =>
      have hk : k ∉ C := fun h => a ((hs k).2 h)
      rw [if_neg hk, if_pos (by omega)]
      have := ih (C := C ++ [k]) (by rw [List.nodup_append]; exact ⟨hC, by simp, fun x hx y hy e => hk (by simp at hy; subst hy; exact e ▸ hx)⟩) c (fun x => by rw [d x, hs x]; simp [or_comm]) e
      omega
    | @evict _ C' _ f _ m' a b g far c d e =>
      have hk : k ∉ C := fun h => a ((hs k).2 h)
      rw [if_neg hk, if_neg (by omega)]
      obtain ⟨j, hj, hf⟩ := List.getElem_of_mem ((hs f).1 g)
      have h1 := (fold_spec (fun j => 1 + few room top (C.set j k) t) top C.length).1 j hj
      have h2 := ih (C := C.set j k) (nodup_set hC hk hj) c (fun x => by rw [d x, mem_set' hC hj x, hs x, hf]) e
      omega
theorem few_run {room top : Int} (hr : 1 ≤ room) : ∀ {t C : List Int}, C.Nodup → (C.length : Int) ≤ room → (t.length : Int) + 1 ≤ top → ∃ n : Nat, few room top C t = n ∧ n ≤ t.length ∧ Run room.toNat C t n := by
  intro t
  induction t with
  | nil => intro C _ _ _; exact ⟨0, rfl, Nat.zero_le _, .nil C⟩
  | cons k t ih =>
    intro C hC hl ht
    simp only [List.length_cons] at ht ⊢
    rw [few_cons]
    by_cases hk : k ∈ C
    · rw [if_pos hk]
      obtain ⟨n, h1, h2, h3⟩ := ih hC hl (by omega)
      exact ⟨n, h1, by omega, .hit hk hC (by omega) hk (fun x hx => hx) h3⟩
    · rw [if_neg hk]
      by_cases hlt : (C.length : Int) < room
      · rw [if_pos hlt]
        have hC2 : (C ++ [k]).Nodup := by rw [List.nodup_append]; exact ⟨hC, by simp, fun x hx y hy e => hk (by simp at hy; subst hy; exact e ▸ hx)⟩
        obtain ⟨n, h1, h2, h3⟩ := ih hC2 (by simp only [List.length_append, List.length_singleton]; omega) (by omega)
        exact ⟨n + 1, by rw [h1]; omega, by omega, .miss hk hC2 (by simp only [List.length_append, List.length_singleton]; omega) (by simp) (fun x hx => by simpa [or_comm] using hx) h3⟩
      · rw [if_neg hlt]
        have each : ∀ j, j < C.length → ∃ n : Nat, few room top (C.set j k) t = n ∧ n ≤ t.length ∧ Run room.toNat (C.set j k) t n := fun j hj => ih (nodup_set hC hk hj) (by simpa using hl) (by omega)
        obtain ⟨a, b, c⟩ := fold_spec (fun j => 1 + few room top (C.set j k) t) top C.length
        rcases c with c | ⟨j, hj, c⟩
        · exfalso
          have h0 := a 0 (by omega)
          obtain ⟨n, h1, h2, _⟩ := each 0 (by omega)
          omega
        · obtain ⟨n, h1, h2, h3⟩ := each j hj
          refine ⟨n + 1, by rw [c]; omega, by omega, .miss hk (nodup_set hC hk hj) (by simp; omega) ((mem_set' hC hj k).2 (.inl rfl)) (fun x hx => ((mem_set' hC hj x).1 hx).imp id (·.1)) h3⟩
theorem fewest {l : List Int} {room top : Int} (hr : 1 ≤ room) (ht : (l.length : Int) + 1 ≤ top) : (go l room l.length).2.2 = few room top [] l := by
  have h1 := go_opt (l := l) hr
  have h2 := few_le (top := top) hr List.nodup_nil List.nodup_nil (fun x => Iff.rfl) h1
  obtain ⟨n, h3, h4, h5⟩ := few_run (t := l) (C := []) hr List.nodup_nil (by simp; omega) ht
  have h6 := Belady.belady h1 h5
  have h7 := (GInv.all (l := l) hr l.length (Nat.le_refl _)).n0
  omega
end Go.Sx.Opt

/- Least recently used: the plain functions. -/
namespace Go.Sx
structure DCache where
  room : Int
  keys : List Int
deriving DecidableEq
namespace Lru
def check (c : DCache) : Int := if okRoom c.room = false then 3 else if c.room < (c.keys.length : Int) then 2 else keys c.keys
/-- A cache that may be touched. -/
structure Ok (c : DCache) : Prop where
  room : 1 ≤ c.room ∧ c.room ≤ 40
  len : (c.keys.length : Int) ≤ c.room
  key : ∀ k ∈ c.keys, okKey k = true
  once : c.keys.Nodup
theorem check_ok {c : DCache} : check c = 0 ↔ Ok c := by
  unfold check
  constructor
  · intro e
    split at e
    · cases e
    · split at e
      · cases e
      · rename_i h1 h2
        have h3 := keys_ok.1 e
        simp [okRoom] at h1
        exact ⟨by omega, by omega, h3.1, h3.2⟩
  · rintro ⟨a, b, c, d⟩
    rw [if_neg (by simp [okRoom]; omega), if_neg (by omega)]
    exact keys_ok.2 ⟨c, d⟩
theorem ok_of {c : DCache} (h : check c = 0) : Ok c := check_ok.1 h
def front (room : Nat) (l : List Int) (k : Int) : List Int := (k :: l.erase k).take room
def gone (room : Int) (l : List Int) (k : Int) : Int := if k ∉ l ∧ (l.length : Int) = room then l.getLastD (-1) else -1
def touch (c : DCache) (key : Int) : DCache × Bool × Int := (⟨c.room, front c.room.toNat c.keys key⟩, decide (key ∈ c.keys), gone c.room c.keys key)
def zero : DCache := ⟨0, []⟩
def accessErr (c : DCache) (key : Int) : Int := if check c = 0 then (if okKey key then 0 else 3) else check c
def access (c : DCache) (key : Int) : DCache × Bool × Int := if accessErr c key = 0 then touch c key else (zero, false, 0)
def runGo (c : DCache) (n : Int) : List Int → DCache × Int
  | [] => (c, n)
  | k :: l => runGo (touch c k).1 (if (touch c k).2.1 then n + 1 else n) l
def runErr (c : DCache) (l : List Int) : Int := if check c = 0 then trace l else check c
def run (c : DCache) (l : List Int) : DCache × Int := if runErr c l = 0 then runGo c 0 l else (zero, 0)
def sizeErr (c : DCache) (room : Int) : Int := if check c = 0 then (if okRoom room then 0 else 3) else check c
def resize (c : DCache) (room : Int) : DCache × List Int := if sizeErr c room = 0 then (⟨room, c.keys.take room.toNat⟩, (c.keys.drop room.toNat).reverse) else (zero, [])
end Lru
end Go.Sx

/- Least recently used: what a touch and a run do. -/
namespace Go.Sx.Lru
abbrev at_ (l : List Int) (key : Int) : Int := idxF (fun x : Int => (x == key)) l
theorem at_lt (l : List Int) (key : Int) : at_ l key < l.length ∧ -1 ≤ at_ l key := idxF_lt _ _
theorem at_mem {l : List Int} {key : Int} : 0 ≤ at_ l key ↔ key ∈ l := by
  rcases idxF_cases (fun x : Int => (x == key)) l with ⟨k, h, e, h1, _⟩ | ⟨e, h1⟩
  · unfold at_; rw [e]
    have : l[k] = key := by simpa using h1
    exact ⟨fun _ => this ▸ List.getElem_mem h, fun _ => by omega⟩
  · unfold at_; rw [e]
    refine ⟨fun h => absurd h (by omega), fun h => ?_⟩
    have := h1 key h; simp at this
theorem at_idx {l : List Int} {key : Int} (h : 0 ≤ at_ l key) : (at_ l key).toNat = l.idxOf key := by
  unfold at_ idxF at h ⊢
  split
  · rfl
  · rename_i h2; rw [if_neg h2] at h; omega
theorem erase_at {l : List Int} {key : Int} (h : 0 ≤ at_ l key) : l.take (at_ l key).toNat ++ l.drop ((at_ l key).toNat + 1) = l.erase key := by
  rw [← List.eraseIdx_eq_take_drop_succ, at_idx h, List.erase_eq_eraseIdx_of_idxOf rfl]
theorem Ok.pos {c : DCache} (h : Ok c) : 0 < c.room.toNat := by have := h.room; omega
theorem front_len (room : Nat) (l : List Int) (k : Int) : (front room l k).length ≤ room := by unfold front; exact List.length_take_le _ _
theorem mem_front {room : Nat} {l : List Int} {k x : Int} (h : x ∈ front room l k) : x = k ∨ x ∈ l := by
  have := List.mem_of_mem_take h
  rcases List.mem_cons.1 this with h | h
  · exact .inl h
  · exact .inr (List.mem_of_mem_erase h)
theorem front_nodup {room : Nat} {l : List Int} (k : Int) (h : l.Nodup) : (front room l k).Nodup := by
  unfold front
  refine List.Nodup.sublist (List.take_sublist _ _) (List.nodup_cons.2 ⟨fun hm => ?_, h.erase k⟩)
  exact absurd rfl (h.mem_erase_iff.1 hm).1
theorem Ok.touch {c : DCache} (h : Ok c) {key : Int} (hk : okKey key = true) : Ok (touch c key).1 := by
  refine ⟨h.room, ?_, ?_, front_nodup key h.once⟩
  · have := front_len c.room.toNat c.keys key; have := h.room
    simp only [Lru.touch]; omega
  · intro k hm
    rcases mem_front hm with rfl | hm
    · exact hk
    · exact h.key k hm
theorem front_hit {room : Nat} {l : List Int} {k : Int} (hk : k ∈ l) (hl : l.length ≤ room) : front room l k = k :: l.erase k := by
  unfold front; rw [List.take_of_length_le]
  have := List.length_erase_of_mem hk
  have := List.length_pos_of_mem hk
  simp only [List.length_cons]; omega
theorem front_add {room : Nat} {l : List Int} {k : Int} (hk : k ∉ l) (hl : l.length < room) : front room l k = k :: l := by
  unfold front; rw [List.erase_of_not_mem hk, List.take_of_length_le (by simp only [List.length_cons]; omega)]
theorem front_full {room : Nat} {l : List Int} {k : Int} (hk : k ∉ l) (h0 : 0 < room) : front room l k = k :: l.take (room - 1) := by
  unfold front; rw [List.erase_of_not_mem hk]
  obtain ⟨n, rfl⟩ : ∃ n, room = n + 1 := ⟨room - 1, by omega⟩
  rw [List.take_succ_cons, Nat.add_sub_cancel]
theorem touch_hit {c : DCache} {key : Int} (ho : Ok c) (h : 0 ≤ at_ c.keys key) : touch c key = (⟨c.room, key :: (c.keys.take (at_ c.keys key).toNat ++ c.keys.drop ((at_ c.keys key).toNat + 1))⟩, true, -1) := by
  have hm := at_mem.1 h
  have := ho.len; have := ho.room
  unfold touch; rw [front_hit hm (by omega), erase_at h]
  simp [gone, hm]
theorem touch_add {c : DCache} {key : Int} (ho : Ok c) (h : at_ c.keys key < 0) (hl : (c.keys.length : Int) ≠ c.room) : touch c key = (⟨c.room, key :: c.keys⟩, false, -1) := by
  have hm : key ∉ c.keys := fun hm => by have := at_mem.2 hm; omega
  have := ho.len; have := ho.room
  unfold touch; rw [front_add hm (by omega)]
  simp [gone, hm, hl]
theorem touch_full {c : DCache} {key : Int} (ho : Ok c) (h : at_ c.keys key < 0) (hl : (c.keys.length : Int) = c.room) (hi : (c.room - 1).toNat < c.keys.length) : touch c key = (⟨c.room, key :: c.keys.take (c.room - 1).toNat⟩, false, c.keys[(c.room - 1).toNat]) := by
  have hm : key ∉ c.keys := fun hm => by have := at_mem.2 hm; omega
  have := ho.len; have := ho.room
  unfold touch; rw [front_full hm (by omega), show c.room.toNat - 1 = (c.room - 1).toNat by omega]
  have e : c.keys.getLastD (-1) = c.keys[(c.room - 1).toNat] := by
    rw [List.getLastD_eq_getLast?, List.getLast?_eq_getElem?, show c.keys.length - 1 = (c.room - 1).toNat by omega, List.getElem?_eq_getElem hi]; rfl
  simp only [gone, hm, not_false_eq_true, hl, and_self, if_true, e, decide_false]
/-! ### access and run -/
theorem acc_cases (c : DCache) (key : Int) : (check c ≠ 0 ∧ access c key = (zero, false, 0) ∧ accessErr c key = check c) ∨ (check c = 0 ∧ okKey key = false ∧ access c key = (zero, false, 0) ∧ accessErr c key = 3) ∨ (check c = 0 ∧ okKey key = true ∧ access c key = touch c key ∧ accessErr c key = 0) := by
  by_cases hc : check c = 0
  · cases hr : okKey key
    · have e : accessErr c key = 3 := by unfold accessErr; rw [if_pos hc, if_neg (by simp [hr])]
      exact .inr (.inl ⟨hc, rfl, by unfold access; rw [e]; rfl, e⟩)
    · have e : accessErr c key = 0 := by unfold accessErr; rw [if_pos hc, if_pos hr]
      exact .inr (.inr ⟨hc, rfl, by unfold access; rw [if_pos e], e⟩)
  · have e : accessErr c key = check c := by unfold accessErr; rw [if_neg hc]
    exact .inl ⟨hc, by unfold access; rw [e, if_neg hc], e⟩
theorem acc1 {c : DCache} {key : Int} (e : check c ≠ 0) : access c key = (zero, false, 0) ∧ accessErr c key = check c := by
  rcases acc_cases c key with ⟨_, b⟩ | ⟨a, _⟩ | ⟨a, _⟩
  · exact b
  · exact absurd a e
  · exact absurd a e
theorem acc2 {c : DCache} {key : Int} (e : check c = 0 ∧ okKey key = false) : access c key = (zero, false, 0) ∧ accessErr c key = 3 := by
  rcases acc_cases c key with ⟨a, _⟩ | ⟨_, _, b⟩ | ⟨_, b, _⟩
  · exact absurd e.1 a
  · exact b
  · rw [e.2] at b; cases b
theorem acc3 {c : DCache} {key : Int} (e2 : ¬ check c = 0 ∨ okKey key = true) (e : check c = 0) : access c key = touch c key ∧ accessErr c key = 0 := by
  rcases acc_cases c key with ⟨a, _⟩ | ⟨_, b, _⟩ | ⟨_, _, b⟩
  · exact absurd e a
  · rcases e2 with e2 | e2
    · exact absurd e e2
    · rw [e2] at b; cases b
  · exact b
theorem acc_bad {c : DCache} {key : Int} (e : accessErr c key ≠ 0) : access c key = (zero, false, 0) := if_neg e
theorem acc_ok {c : DCache} {key : Int} (e : accessErr c key = 0) : check c = 0 ∧ okKey key = true ∧ access c key = touch c key := by
  rcases acc_cases c key with ⟨a, b, d⟩ | ⟨a, a2, b, d⟩ | ⟨a, a2, b, d⟩
  · exact absurd (d ▸ e) a
  · rw [d] at e; cases e
  · exact ⟨a, a2, b⟩
theorem run_cases (c : DCache) (l : List Int) : (check c ≠ 0 ∧ run c l = (zero, 0) ∧ runErr c l = check c) ∨ (check c = 0 ∧ trace l ≠ 0 ∧ run c l = (zero, 0) ∧ runErr c l = trace l) ∨ (check c = 0 ∧ trace l = 0 ∧ run c l = runGo c 0 l ∧ runErr c l = 0) := by
  by_cases h : check c = 0
  · have e : runErr c l = trace l := by unfold runErr; rw [if_pos h]
    by_cases h2 : trace l = 0
    · exact .inr (.inr ⟨h, h2, by unfold run; rw [if_pos (e.trans h2)], e.trans h2⟩)
    · exact .inr (.inl ⟨h, h2, by unfold run; rw [if_neg (by rw [e]; exact h2)], e⟩)
  · have e : runErr c l = check c := by unfold runErr; rw [if_neg h]
    exact .inl ⟨h, by unfold run; rw [if_neg (by rw [e]; exact h)], e⟩
theorem run1 {c : DCache} {l : List Int} (e : check c ≠ 0) : run c l = (zero, 0) ∧ runErr c l = check c := by
  rcases run_cases c l with ⟨_, b⟩ | ⟨a, _⟩ | ⟨a, _⟩
  · exact b
  · exact absurd a e
  · exact absurd a e
theorem run2 {c : DCache} {l : List Int} (e : check c = 0) (e2 : trace l ≠ 0) : run c l = (zero, 0) ∧ runErr c l = trace l := by
  rcases run_cases c l with ⟨a, _⟩ | ⟨_, _, b⟩ | ⟨_, a, _⟩
  · exact absurd e a
  · exact b
  · exact absurd a e2
theorem run3 {c : DCache} {l : List Int} (e : check c = 0) (e2 : trace l = 0) : run c l = runGo c 0 l ∧ runErr c l = 0 := by
  rcases run_cases c l with ⟨a, _⟩ | ⟨_, a, _⟩ | ⟨_, _, b⟩
  · exact absurd e a
  · exact absurd e2 a
  · exact b
theorem run_bad {c : DCache} {l : List Int} (e : runErr c l ≠ 0) : run c l = (zero, 0) := if_neg e
theorem run_ok {c : DCache} {l : List Int} (e : runErr c l = 0) : check c = 0 ∧ trace l = 0 ∧ run c l = runGo c 0 l := by
  rcases run_cases c l with ⟨a, b, d⟩ | ⟨a, a2, b, d⟩ | ⟨a, a2, b, d⟩
  · exact absurd (d ▸ e) a
  · exact absurd (d ▸ e) a2
  · exact ⟨a, a2, b⟩
theorem size_cases (c : DCache) (room : Int) : (check c ≠ 0 ∧ resize c room = (zero, []) ∧ sizeErr c room = check c) ∨ (check c = 0 ∧ okRoom room = false ∧ resize c room = (zero, []) ∧ sizeErr c room = 3) ∨ (check c = 0 ∧ okRoom room = true ∧ resize c room = (⟨room, c.keys.take room.toNat⟩, (c.keys.drop room.toNat).reverse) ∧ sizeErr c room = 0) := by
  by_cases hc : check c = 0
  · cases hr : okRoom room
    · have e : sizeErr c room = 3 := by unfold sizeErr; rw [if_pos hc, if_neg (by simp [hr])]
      exact .inr (.inl ⟨hc, rfl, by unfold resize; rw [e]; rfl, e⟩)
    · have e : sizeErr c room = 0 := by unfold sizeErr; rw [if_pos hc, if_pos hr]
      exact .inr (.inr ⟨hc, rfl, by unfold resize; rw [if_pos e], e⟩)
  · have e : sizeErr c room = check c := by unfold sizeErr; rw [if_neg hc]
    exact .inl ⟨hc, by unfold resize; rw [e, if_neg hc], e⟩
theorem size1 {c : DCache} {room : Int} (e : check c ≠ 0) : resize c room = (zero, []) ∧ sizeErr c room = check c := by
  rcases size_cases c room with ⟨_, b⟩ | ⟨a, _⟩ | ⟨a, _⟩
  · exact b
  · exact absurd a e
  · exact absurd a e
theorem size2 {c : DCache} {room : Int} (e : check c = 0 ∧ okRoom room = false) : resize c room = (zero, []) ∧ sizeErr c room = 3 := by
  rcases size_cases c room with ⟨a, _⟩ | ⟨_, _, b⟩ | ⟨_, b, _⟩
  · exact absurd e.1 a
  · exact b
  · rw [e.2] at b; cases b
theorem size3 {c : DCache} {room : Int} (e : check c = 0) (e2 : okRoom room = true) : resize c room = (⟨room, c.keys.take room.toNat⟩, (c.keys.drop room.toNat).reverse) ∧ sizeErr c room = 0 := by
  rcases size_cases c room with ⟨a, _⟩ | ⟨_, b, _⟩ | ⟨_, _, b⟩
  · exact absurd e a
  · rw [e2] at b; cases b
  · exact b
theorem take_min (l : List Int) (n : Nat) : l.take (min n l.length) = l.take n := by
  rcases Nat.le_total n l.length with h | h
  · rw [Nat.min_eq_left h]
  · rw [Nat.min_eq_right h, List.take_of_length_le h, List.take_of_length_le (Nat.le_refl _)]
theorem drop_min (l : List Int) (n : Nat) : l.drop (min n l.length) = l.drop n := by
  rcases Nat.le_total n l.length with h | h
  · rw [Nat.min_eq_left h]
  · rw [Nat.min_eq_right h, List.drop_of_length_le h, List.drop_of_length_le (Nat.le_refl _)]
theorem keep_nat (l : List Int) {room : Int} (h : 0 ≤ room) : (min room (l.length : Int)).toNat = min room.toNat l.length := by omega
theorem cut_keys (l : List Int) (room : Int) (h : 0 ≤ room) : l.take (min room (l.length : Int)).toNat = l.take room.toNat := by rw [keep_nat l h, take_min]
theorem cut_gone (l : List Int) (room : Int) (h : 0 ≤ room) : (l.drop (min room (l.length : Int)).toNat).reverse = (l.drop room.toNat).reverse := by rw [keep_nat l h, drop_min]
theorem ins0 (l : List Int) (k : Int) : l.take (0 : Int).toNat ++ [k] ++ l.drop (0 : Int).toNat = k :: l := rfl
theorem nat1 {i : Int} (h : 0 ≤ i) : (i + 1).toNat = i.toNat + 1 := by omega
/-! ### the reference's touch -/
/-- the keys but one, as many as there is room, and the last that doesn't fit -/
structure TInv (c : DCache) (key : Int) (oc : DCache) (gone : Int) (i : Nat) : Prop where
  room : oc.room = c.room
  rb : 1 ≤ c.room ∧ c.room ≤ 40
  le : i ≤ c.keys.length
  keys : oc.keys = (key :: (c.keys.take i).filter (fun x => !(x == key))).take c.room.toNat
  gone_ : gone = if c.room.toNat < ((c.keys.take i).filter (fun x => !(x == key))).length + 1 then ((c.keys.take i).filter (fun x => !(x == key))).getLastD (-1) else -1
theorem TInv.start {c : DCache} (h : Ok c) (key : Int) : TInv c key ⟨c.room, [key]⟩ (-1) 0 := by
  have hr := h.room
  refine ⟨rfl, h.room, Nat.zero_le _, ?_, by simp⟩
  obtain ⟨t, ht⟩ : ∃ t, c.room.toNat = t + 1 := ⟨c.room.toNat - 1, by omega⟩
  rw [ht]; simp
theorem TInv.olen {c oc : DCache} {key gone : Int} {i : Nat} (h : TInv c key oc gone i) : oc.keys.length ≤ 40 := by
  have := h.rb
  rw [h.keys, List.length_take]; omega
theorem TInv.skip {c oc : DCache} {key gone : Int} {i : Nat} (h : TInv c key oc gone i) (hi : i < c.keys.length) (hk : c.keys[i] = key) : TInv c key oc gone (i + 1) := by
  have e : (c.keys.take (i + 1)).filter (fun x => !(x == key)) = (c.keys.take i).filter (fun x => !(x == key)) := by
    rw [List.take_succ_eq_append_getElem hi, List.filter_append]; simp [hk]
  exact ⟨h.room, h.rb, hi, by rw [e]; exact h.keys, by rw [e]; exact h.gone_⟩
theorem filt_snoc {l : List Int} {key : Int} {i : Nat} (hi : i < l.length) (hk : l[i] ≠ key) : (l.take (i + 1)).filter (fun x => !(x == key)) = (l.take i).filter (fun x => !(x == key)) ++ [l[i]] := by
  rw [List.take_succ_eq_append_getElem hi, List.filter_append]; simp [hk]
theorem TInv.add {c oc : DCache} {key gone : Int} {i : Nat} (h : TInv c key oc gone i) (hi : i < c.keys.length) (hk : c.keys[i] ≠ key) (hl : (oc.keys.length : Int) < c.room) : TInv c key ⟨oc.room, oc.keys ++ [c.keys[i]]⟩ gone (i + 1) := by
  have hr := h.rb
  have e := filt_snoc hi hk
  have hlen := h.keys
  have hl2 := congrArg List.length hlen
  simp only [List.length_take, List.length_cons] at hl2
  refine ⟨h.room, h.rb, hi, ?_, ?_⟩
  · simp only; rw [e, hlen]
    generalize (c.keys.take i).filter (fun x => !(x == key)) = f at hl2 ⊢
    rw [List.take_of_length_le (l := key :: f) (by simp only [List.length_cons]; omega), List.take_of_length_le (l := key :: (f ++ [c.keys[i]])) (by simp only [List.length_cons, List.length_append, List.length_nil]; omega), List.cons_append]
  · rw [h.gone_, e, if_neg (by omega), if_neg (by simp only [List.length_append, List.length_cons, List.length_nil]; omega)]
theorem TInv.drop {c oc : DCache} {key gone : Int} {i : Nat} (h : TInv c key oc gone i) (hi : i < c.keys.length) (hk : c.keys[i] ≠ key) (hl : c.room ≤ (oc.keys.length : Int)) : TInv c key oc c.keys[i] (i + 1) := by
  have hr := h.rb
  have e := filt_snoc hi hk
  have hlen := h.keys
  have hl2 := congrArg List.length hlen
  simp only [List.length_take, List.length_cons] at hl2
  refine ⟨h.room, h.rb, hi, ?_, ?_⟩
  · rw [e, hlen, ← List.cons_append, List.take_append_of_le_length (by simp only [List.length_cons]; omega)]
  · rw [e, if_pos (by simp only [List.length_append, List.length_cons, List.length_nil]; omega)]; simp
theorem filter_erase {l : List Int} (hn : l.Nodup) (key : Int) : l.filter (fun x => !(x == key)) = l.erase key := by
  rw [hn.erase_eq_filter]; congr 1
theorem TInv.done {c oc : DCache} {key gone : Int} {i : Nat} (h : TInv c key oc gone i) (ho : Ok c) (hi : (c.keys.length : Int) ≤ i) : oc.keys = (Lru.touch c key).1.keys ∧ gone = (Lru.touch c key).2.2 := by
  have hr := h.rb
  have hl := ho.len
  have e : (c.keys.take i).filter (fun x => !(x == key)) = c.keys.erase key := by rw [List.take_of_length_le (by omega), filter_erase ho.once]
  refine ⟨by rw [h.keys, e]; rfl, ?_⟩
  rw [h.gone_, e]
  show _ = Lru.gone c.room c.keys key
  unfold Lru.gone
  by_cases hm : key ∈ c.keys
  · have h1 := List.length_erase_of_mem hm
    have h2 := List.length_pos_of_mem hm
    rw [if_neg (by omega), if_neg (fun h => h.1 hm)]
  · rw [List.erase_of_not_mem hm]
    by_cases hf : (c.keys.length : Int) = c.room
    · rw [if_pos (by omega), if_pos ⟨hm, hf⟩]
    · rw [if_neg (by omega), if_neg (fun h => hf h.2)]
structure RInv (c cc : DCache) (l : List Int) (n : Int) (k : Nat) : Prop where
  ok : Ok cc
  key : ∀ x ∈ l, okKey x = true
  n0 : 0 ≤ n
  n1 : n ≤ (k : Int)
  le : k ≤ l.length
  go : runGo cc n (l.drop k) = runGo c 0 l
theorem RInv.start {c : DCache} {l : List Int} (h : Ok c) (hk : ∀ x ∈ l, okKey x = true) : RInv c c l 0 0 := ⟨h, hk, Int.le_refl _, Int.le_refl _, Nat.zero_le _, rfl⟩
theorem RInv.start' {c : DCache} {l : List Int} (h : check c = 0) (hk : trace l = 0) : RInv c c l 0 0 := RInv.start (ok_of h) (trace_ok.1 hk).2
theorem RInv.hit {c cc : DCache} {l : List Int} {n : Int} {k : Nat} (h : RInv c cc l n k) (hk : k < l.length) (ht : (Lru.touch cc l[k]).2.1 = true) : RInv c (Lru.touch cc l[k]).1 l (n + 1) (k + 1) := by
  obtain ⟨g1, g0, g2, g3, g4, g5⟩ := h
  rw [List.drop_eq_getElem_cons hk, runGo, if_pos ht] at g5
  exact ⟨g1.touch (g0 _ (List.getElem_mem hk)), g0, by omega, by omega, hk, g5⟩
theorem RInv.miss {c cc : DCache} {l : List Int} {n : Int} {k : Nat} (h : RInv c cc l n k) (hk : k < l.length) (ht : (Lru.touch cc l[k]).2.1 = false) : RInv c (Lru.touch cc l[k]).1 l n (k + 1) := by
  obtain ⟨g1, g0, g2, g3, g4, g5⟩ := h
  rw [List.drop_eq_getElem_cons hk, runGo, if_neg (by simp [ht])] at g5
  exact ⟨g1.touch (g0 _ (List.getElem_mem hk)), g0, by omega, by omega, hk, g5⟩
theorem RInv.done {c cc : DCache} {l : List Int} {n : Int} {k : Nat} (h : RInv c cc l n k) (hk : (l.length : Int) ≤ k) : runGo c 0 l = (cc, n) := by
  rw [← h.go, List.drop_of_length_le (by omega)]; rfl
theorem Ok.runGo {l : List Int} : ∀ {c : DCache} {n : Int}, Ok c → (∀ x ∈ l, okKey x = true) → Ok (runGo c n l).1 := by
  induction l with
  | nil => intro c n h _; exact h
  | cons k l ih => intro c n h hk; exact ih (h.touch (hk k (by simp))) (fun x hx => hk x (by simp [hx]))
theorem runGo_append {l m : List Int} : ∀ {c : DCache} {n : Int}, Lru.runGo c n (l ++ m) = Lru.runGo (Lru.runGo c n l).1 (Lru.runGo c n l).2 m := by
  induction l with
  | nil => intro c n; rfl
  | cons k l ih => intro c n; rw [List.cons_append, Lru.runGo, ih]; rfl
theorem runGo_add {l : List Int} : ∀ {c : DCache} {n : Int}, Lru.runGo c n l = ((Lru.runGo c 0 l).1, n + (Lru.runGo c 0 l).2) := by
  induction l with
  | nil => intro c n; simp [Lru.runGo]
  | cons k l ih =>
    intro c n
    rw [Lru.runGo, ih, Lru.runGo, ih (n := if (Lru.touch c k).2.1 = true then 0 + 1 else 0)]
    split <;> simp <;> omega
theorem runGo_room {l : List Int} : ∀ {c : DCache} {n : Int}, (Lru.runGo c n l).1.room = c.room := by
  induction l with
  | nil => intro c n; rfl
  | cons k l ih => intro c n; rw [Lru.runGo, ih]; rfl
theorem same_cache {a b : DCache} : a = b ↔ a.room = b.room ∧ a.keys = b.keys := by
  constructor
  · rintro rfl; exact ⟨rfl, rfl⟩
  · rintro ⟨h1, h2⟩; cases a; cases b; simp_all
/-! ### inclusion -/
theorem take_erase {l : List Int} {k : Int} {s : Nat} (hk : k ∈ l.take s) : (l.take s).erase k = (l.erase k).take (s - 1) := by
  induction l generalizing s with
  | nil => simp at hk
  | cons a l ih =>
    cases s with
    | zero => simp at hk
    | succ s =>
      rw [List.take_succ_cons] at hk ⊢
      by_cases e : a = k
      · subst e; simp
      · have e' : (a == k) = false := by simpa using e
        rw [List.erase_cons, List.erase_cons, if_neg (by simp [e']), if_neg (by simp [e'])]
        have hk' : k ∈ l.take s := by rcases List.mem_cons.1 hk with h | h; exact absurd h.symm e; exact h
        rw [ih hk']
        obtain ⟨t, rfl⟩ : ∃ t, s = t + 1 := by
          cases s with
          | zero => simp at hk'
          | succ t => exact ⟨t, rfl⟩
        rfl
theorem take_erase_not {l : List Int} {k : Int} {s : Nat} (hk : k ∉ l.take (s + 1)) : (l.erase k).take s = l.take s := by
  induction l generalizing s with
  | nil => simp
  | cons a l ih =>
    rw [List.take_succ_cons] at hk
    have e : ¬ a = k := fun e => hk (by simp [e])
    have e' : (a == k) = false := by simpa using e
    rw [List.erase_cons, if_neg (by simp [e'])]
    cases s with
    | zero => rfl
    | succ s => rw [List.take_succ_cons, List.take_succ_cons, ih (fun h => hk (List.mem_cons_of_mem _ h))]
theorem front_take {s r : Nat} {l : List Int} {k : Int} (hs : 0 < s) (h : s ≤ r) : front s (l.take s) k = (front r l k).take s := by
  obtain ⟨t, rfl⟩ : ∃ t, s = t + 1 := ⟨s - 1, by omega⟩
  unfold front
  rw [List.take_take, Nat.min_eq_left h, List.take_succ_cons, List.take_succ_cons]
  congr 1
  by_cases hk : k ∈ l.take (t + 1)
  · rw [take_erase hk, List.take_take, Nat.add_sub_cancel, Nat.min_self]
  · rw [List.erase_of_not_mem hk, List.take_take, Nat.min_eq_left (by omega), take_erase_not hk]
theorem inclusion {l : List Int} : ∀ {a b : DCache} {n m : Int}, 1 ≤ a.room → a.room ≤ b.room → a.keys = b.keys.take a.room.toNat → n ≤ m → (Lru.runGo a n l).2 ≤ (Lru.runGo b m l).2 ∧ (Lru.runGo a n l).1.keys = (Lru.runGo b m l).1.keys.take a.room.toNat := by
  induction l with
  | nil => intro a b n m _ _ h1 h2; exact ⟨h2, h1⟩
  | cons k l ih =>
    intro a b n m h1 hr hk hn
    rw [Lru.runGo, Lru.runGo]
    refine ih (a := (Lru.touch a k).1) (b := (Lru.touch b k).1) h1 hr ?_ ?_
    · show front a.room.toNat a.keys k = (front b.room.toNat b.keys k).take a.room.toNat
      rw [hk]; exact front_take (by omega) (by omega)
    · have hs : k ∈ a.keys → k ∈ b.keys := fun h => by rw [hk] at h; exact List.mem_of_mem_take h
      simp only [Lru.touch, decide_eq_true_eq]
      by_cases ha : k ∈ a.keys
      · rw [if_pos ha, if_pos (hs ha)]; omega
      · rw [if_neg ha]; split <;> omega
/-! ### what was used last -/
theorem runGo_keys {l : List Int} : ∀ {c : DCache} {n : Int}, ∀ x ∈ (Lru.runGo c n l).1.keys, x ∈ c.keys ∨ x ∈ l := by
  induction l with
  | nil => intro c n x hx; exact .inl hx
  | cons k l ih =>
    intro c n x hx
    rw [Lru.runGo] at hx
    rcases ih x hx with h | h
    · rcases mem_front h with rfl | h
      · exact .inr (by simp)
      · exact .inl h
    · exact .inr (List.mem_cons_of_mem _ h)
theorem runGo_snoc {l : List Int} {c : DCache} {n : Int} {k : Int} : (Lru.runGo c n (l ++ [k])).1 = (Lru.touch (Lru.runGo c n l).1 k).1 := by rw [runGo_append]; rfl
theorem runGo_last {l : List Int} {c : DCache} {n : Int} (h0 : l ≠ []) (hr : 1 ≤ c.room) : ∃ r, (Lru.runGo c n l).1.keys = l.getLast h0 :: r := by
  have e := List.dropLast_concat_getLast h0
  have : (Lru.runGo c n l).1 = (Lru.touch (Lru.runGo c n l.dropLast).1 (l.getLast h0)).1 := by
    conv => lhs; rw [← e]
    exact runGo_snoc
  rw [this]
  show ∃ r, front (Lru.runGo c n l.dropLast).1.room.toNat _ _ = _
  rw [runGo_room]
  obtain ⟨t, ht⟩ : ∃ t, c.room.toNat = t + 1 := ⟨c.room.toNat - 1, by omega⟩
  unfold front; rw [ht, List.take_succ_cons]; exact ⟨_, rfl⟩
theorem touch_first {c : DCache} {k : Int} {r : List Int} (ho : Ok c) (h : c.keys = k :: r) : Lru.touch c k = (c, true, -1) := by
  have hm : k ∈ c.keys := by simp [h]
  have hl := ho.len
  unfold Lru.touch
  rw [front_hit hm (by omega)]
  simp [gone, hm, h]
  cases c; simp_all
/-! ### LruSpec -/
theorem acc_num (c : DCache) (key : Int) : (check c ≠ 0 ∧ access c key = (zero, false, 0) ∧ accessErr c key = check c) ∨ (check c = 0 ∧ (key < 0 ∨ 1048576 < key) ∧ access c key = (zero, false, 0) ∧ accessErr c key = 3) ∨ (check c = 0 ∧ (0 ≤ key ∧ key ≤ 1048576) ∧ access c key = touch c key ∧ accessErr c key = 0) := by
  rcases acc_cases c key with h | ⟨a, b, d⟩ | ⟨a, b, d⟩
  · exact .inl h
  · refine .inr (.inl ⟨a, ?_, d⟩); simp [okKey] at b; omega
  · exact .inr (.inr ⟨a, key_ok b, d⟩)
theorem size_num (c : DCache) (room : Int) : (check c ≠ 0 ∧ resize c room = (zero, []) ∧ sizeErr c room = check c) ∨ (check c = 0 ∧ (room < 1 ∨ 40 < room) ∧ resize c room = (zero, []) ∧ sizeErr c room = 3) ∨ (check c = 0 ∧ (1 ≤ room ∧ room ≤ 40) ∧ resize c room = (⟨room, c.keys.take room.toNat⟩, (c.keys.drop room.toNat).reverse) ∧ sizeErr c room = 0) := by
  rcases size_cases c room with h | ⟨a, b, d⟩ | ⟨a, b, d⟩
  · exact .inl h
  · refine .inr (.inl ⟨a, ?_, d⟩); simp [okRoom] at b; omega
  · exact .inr (.inr ⟨a, room_ok b, d⟩)
structure ZInv (c : DCache) (room : Int) (sc : DCache) (less : List Int) : Prop where
  rm : sc.room = room
  rb : 1 ≤ room
  len : sc.keys.length + less.length = c.keys.length
  keys : sc.keys = c.keys.take sc.keys.length
  less_ : less = (c.keys.drop sc.keys.length).reverse
  few : less = [] ∨ room ≤ (sc.keys.length : Int)
theorem ZInv.start {c : DCache} {room : Int} (h : 1 ≤ room) : ZInv c room ⟨room, c.keys⟩ [] := ⟨rfl, h, by simp, by simp, by simp, .inl rfl⟩
theorem ZInv.next {c sc : DCache} {room : Int} {less : List Int} (h : ZInv c room sc less) (hl : room < (sc.keys.length : Int)) (hi : ((sc.keys.length : Int) - 1).toNat < sc.keys.length) : ZInv c room ⟨sc.room, sc.keys.take ((sc.keys.length : Int) - 1).toNat⟩ (less ++ [sc.keys[((sc.keys.length : Int) - 1).toNat]]) := by
  obtain ⟨a, b, l, k, e, f⟩ := h
  have e1 : ((sc.keys.length : Int) - 1).toNat = sc.keys.length - 1 := by omega
  have e2 : (sc.keys.take (sc.keys.length - 1)).length = sc.keys.length - 1 := by simp
  have hc : sc.keys.length - 1 < c.keys.length := by omega
  have hg : sc.keys[sc.keys.length - 1]'(by omega) = c.keys[sc.keys.length - 1] := by
    have : sc.keys[sc.keys.length - 1]'(by omega) = (c.keys.take sc.keys.length)[sc.keys.length - 1]'(by simp; omega) := by
      congr 1
    rw [this, List.getElem_take]
  simp only [e1]
  refine ⟨a, b, by simp only [List.length_append, List.length_singleton, e2]; omega, ?_, ?_, .inr (by simp only [e2]; omega)⟩
  · have hk := congrArg (List.take (sc.keys.length - 1)) k
    rw [List.take_take, Nat.min_eq_left (by omega)] at hk
    simp only [e2]; exact hk
  · simp only [e2, hg]
    rw [List.drop_eq_getElem_cons hc, List.reverse_cons, show sc.keys.length - 1 + 1 = sc.keys.length by omega, ← e]
theorem ZInv.done {c sc : DCache} {room : Int} {less : List Int} (h : ZInv c room sc less) (hl : (sc.keys.length : Int) ≤ room) : sc = ⟨room, c.keys.take room.toNat⟩ ∧ less = (c.keys.drop room.toNat).reverse := by
  obtain ⟨a, b, l, k, e, f⟩ := h
  have key : sc.keys = c.keys.take room.toNat ∧ less = (c.keys.drop room.toNat).reverse := by
    rcases f with f | f
    · subst f
      simp only [List.length_nil, Nat.add_zero] at l
      refine ⟨?_, ?_⟩
      · rw [k, l, List.take_of_length_le (Nat.le_refl _), List.take_of_length_le (by omega)]
      · rw [List.drop_of_length_le (by omega)]; rfl
    · have : sc.keys.length = room.toNat := by omega
      exact ⟨by rw [← this]; exact k, by rw [← this]; exact e⟩
  exact ⟨by cases sc; simp only at a key ⊢; rw [a, key.1], key.2⟩
end Go.Sx.Lru

/- Elements by number; numbers compared. -/
namespace Go.Sx
theorem getd_at {α : Type} {L : List α} {i : Nat} (h : i < L.length) (d : α) : L[i] = L.getD i d := by rw [List.getD_eq_getElem?_getD, List.getElem?_eq_getElem h]; rfl
def cmpI (x y : Int) : Int := if x < y then -1 else if y < x then 1 else 0
theorem cmpI_neg {x y : Int} : cmpI x y < 0 ↔ x < y := by unfold cmpI; split; simp [*]; split <;> simp <;> omega
theorem cmpI_zero {x y : Int} : cmpI x y = 0 ↔ x = y := by unfold cmpI; split; simp; omega; split <;> simp <;> omega
theorem cmp_lt {x y : Int} (h : x < y) : -1 = cmpI x y := by unfold cmpI; rw [if_pos h]
theorem cmp_gt {x y : Int} (h1 : y ≤ x) (h : y < x) : 1 = cmpI x y := by unfold cmpI; rw [if_neg (by omega), if_pos h]
theorem cmp_eq {x y : Int} (h1 : y ≤ x) (h2 : x ≤ y) : 0 = cmpI x y := by unfold cmpI; rw [if_neg (by omega), if_neg (by omega)]
end Go.Sx

/- The optimal policy: what the program's loops keep. -/
namespace Go.Sx.AL
variable {κ ν : Type} [DecidableEq κ]
theorem set_mem {m : List (κ × ν)} (hn : (m.map (·.1)).Nodup) {k : κ} {v : ν} {p : κ × ν} : p ∈ set m k v ↔ p = (k, v) ∨ (p ∈ m ∧ p.1 ≠ k) := by
  induction m with
  | nil => simp [set]
  | cons q m ih =>
    obtain ⟨a, u⟩ := q
    rw [List.map_cons, List.nodup_cons] at hn
    simp only [set]
    split
    · rename_i e; subst e
      simp only [List.mem_cons]
      constructor
      · rintro (h | h)
        · exact .inl h
        · exact .inr ⟨.inr h, fun e => hn.1 (e ▸ List.mem_map.2 ⟨p, h, rfl⟩)⟩
      · rintro (h | ⟨h | h, h2⟩)
        · exact .inl h
        · rw [h] at h2; exact absurd rfl h2
        · exact .inr h
    · rename_i e
      simp only [List.mem_cons, ih hn.2]
      constructor
      · rintro (h | h | h)
        · exact .inr ⟨.inl h, by rw [h]; exact fun h => e h.symm⟩
        · exact .inl h
        · exact .inr ⟨.inr h.1, h.2⟩
      · rintro (h | ⟨h | h, h2⟩)
        · exact .inr (.inl h)
        · exact .inl h
        · exact .inr (.inr ⟨h, h2⟩)
theorem del_mem {m : List (κ × ν)} (hn : (m.map (·.1)).Nodup) {k : κ} {p : κ × ν} : p ∈ del m k ↔ p ∈ m ∧ p.1 ≠ k := by
  induction m with
  | nil => simp [del]
  | cons q m ih =>
    obtain ⟨a, u⟩ := q
    rw [List.map_cons, List.nodup_cons] at hn
    simp only [del]
    split
    · rename_i e; subst e
      simp only [List.mem_cons]
      constructor
      · intro h; exact ⟨.inr h, fun e => hn.1 (e ▸ List.mem_map.2 ⟨p, h, rfl⟩)⟩
      · rintro ⟨h | h, h2⟩
        · rw [h] at h2; exact absurd rfl h2
        · exact h
    · rename_i e
      simp only [List.mem_cons, ih hn.2]
      constructor
      · rintro (h | h)
        · exact ⟨.inl h, by rw [h]; exact fun h => e h.symm⟩
        · exact ⟨.inr h.1, h.2⟩
      · rintro ⟨h | h, h2⟩
        · exact .inl h
        · exact .inr ⟨h, h2⟩
theorem set_nodup {m : List (κ × ν)} (hn : (m.map (·.1)).Nodup) (k : κ) (v : ν) : ((set m k v).map (·.1)).Nodup := by
  rw [set_keys]; split
  · exact hn
  · rename_i h; rw [List.nodup_append]; exact ⟨hn, by simp, fun x hx y hy e => h (by simp at hy; subst hy; exact e ▸ hx)⟩
theorem del_nodup {m : List (κ × ν)} (hn : (m.map (·.1)).Nodup) (k : κ) : ((del m k).map (·.1)).Nodup := by
  rw [del_keys]; exact hn.erase k
end Go.Sx.AL
namespace Go.Sx.Opt
def nexts (l : List Int) : List Int := (List.range l.length).map fun i => ((ca l (i + 1) (l.getD i 0) : Nat) : Int)
theorem nexts_len (l : List Int) : (nexts l).length = l.length := by simp [nexts]
theorem nexts_at {l : List Int} {i : Nat} (hi : i < l.length) (h : i < (nexts l).length) : (nexts l)[i] = ((ca l (i + 1) l[i] : Nat) : Int) := by
  simp only [nexts, List.getElem_map, List.getElem_range, getD_eq hi]
/-! ### slices.Backward -/
theorem back_vals {l : List Int} {i : Int} {k : Nat} (hi : i = (l.length : Int) - 1 - (k : Int)) (hk : k < l.length) (h : i.toNat < l.length) : ([.int .i64 i, .int .i64 l[i.toNat]] : List Value) = [.int .i64 ((l.length : Int) - 1 - (k : Int)), .int .i64 (l.getD (l.length - 1 - k) 0)] := by
  have e : i.toNat = l.length - 1 - k := by omega
  rw [getD_eq (show l.length - 1 - k < l.length by omega), ← hi]
  simp only [e]
structure NInv (l ol : List Int) (m : List (Int × Int)) (k : Nat) : Prop where
  le : k ≤ l.length
  len : ol.length = l.length
  out : ∀ j (h : j < l.length) (h2 : j < ol.length), l.length - k ≤ j → ol[j] = ((ca l (j + 1) l[j] : Nat) : Int)
  get : ∀ key, AL.get m key = if ca l (l.length - k) key < l.length then some ((ca l (l.length - k) key : Nat) : Int) else none
theorem NInv.start (l : List Int) : NInv l (List.replicate l.length 0) [] 0 := ⟨Nat.zero_le _, by simp, fun j h h2 h3 => by omega, fun key => by rw [Nat.sub_zero, ca_end, if_neg (by omega)]; rfl⟩
theorem NInv.next {l ol : List Int} {m : List (Int × Int)} {k : Nat} (h : NInv l ol m k) (hk : k < l.length) {i key v : Int} (hi : i = (l.length : Int) - 1 - (k : Int)) (hkey : key = l.getD (l.length - 1 - k) 0) (hv : v = ((ca l (l.length - k) key : Nat) : Int)) : NInv l (ol.set i.toNat v) (AL.set m key i) (k + 1) := by
  have ei : i.toNat = l.length - 1 - k := by omega
  have hlt : l.length - 1 - k < l.length := by omega
  rw [getD_eq hlt] at hkey
  have e1 : l.length - k = l.length - 1 - k + 1 := by omega
  have e2 : l.length - (k + 1) = l.length - 1 - k := by omega
  refine ⟨by omega, by rw [List.length_set]; exact h.len, fun j hj hj2 hle => ?_, fun x => ?_⟩
  · rw [List.getElem_set]
    split
    · rename_i e
      obtain rfl : j = l.length - 1 - k := by omega
      rw [hv, e1, hkey]
    · exact h.out j hj (by rw [List.length_set] at hj2; exact hj2) (by omega)
  · rw [AL.get_set, e2]
    split
    · rename_i e; subst e; rw [hkey, ca_same hlt, if_pos hlt]; congr 1; omega
    · rename_i e
      rw [h.get x, e1, ca_next hlt (by rw [← hkey]; exact fun h => e h.symm)]
theorem NInv.some {l ol : List Int} {m : List (Int × Int)} {k : Nat} (h : NInv l ol m k) {key : Int} (hs : (AL.get m key).isSome = true) : (AL.get m key).getD 0 = ((ca l (l.length - k) key : Nat) : Int) := by
  rw [h.get] at hs ⊢; split at hs
  · rename_i e; rw [if_pos e]; rfl
  · cases hs
theorem NInv.none {l ol : List Int} {m : List (Int × Int)} {k : Nat} (h : NInv l ol m k) {key : Int} (hs : (AL.get m key).isSome = false) : (l.length : Int) = ((ca l (l.length - k) key : Nat) : Int) := by
  rw [h.get] at hs; split at hs
  · cases hs
  · have := ca_le (l := l) (i := l.length - k) key (by omega); omega
theorem NInv.done {l ol : List Int} {m : List (Int × Int)} (h : NInv l ol m l.length) : ol = nexts l := by
  refine List.ext_getElem (by rw [h.len, nexts_len]) fun i h1 h2 => ?_
  have hi : i < l.length := by rw [h.len] at h1; exact h1
  rw [h.out i hi h1 (by omega), nexts_at hi h2]
/-! ### the farthest key of a map -/
def IsFar (m : List (Int × Int)) (b w : Int) : Prop := (m = [] ∧ b = -1 ∧ w = -1) ∨ ((b, w) ∈ m ∧ ∀ p ∈ m, p.2 < w ∨ (p.2 = w ∧ b ≤ p.1))
def better (p : Int × Int) (b w : Int) : Bool := decide (w < p.2) || ((p.2 == w) && decide (p.1 < b))
def farFold (m : List (Int × Int)) : Int × Int := m.foldl (fun s p => if better p s.1 s.2 then p else s) (-1, -1)
def far (m : List (Int × Int)) : Int := (farFold m).1
theorem IsFar.take_ {m : List (Int × Int)} {b w : Int} (h : IsFar m b w) {p : Int × Int} (hp : 0 ≤ p.2) (hb : w < p.2 ∨ (p.2 = w ∧ p.1 < b)) : IsFar (m ++ [p]) p.1 p.2 := by
  right
  refine ⟨by simp, fun q hq => ?_⟩
  rcases List.mem_append.1 hq with hq | hq
  · rcases h with ⟨h1, _⟩ | ⟨_, h2⟩
    · subst h1; cases hq
    · have := h2 q hq; omega
  · simp at hq; subst hq; right; exact ⟨rfl, Int.le_refl _⟩
theorem IsFar.skip {m : List (Int × Int)} {b w : Int} (h : IsFar m b w) {p : Int × Int} (hp : 0 ≤ p.2) (hb : p.2 ≤ w ∧ (p.2 ≠ w ∨ b ≤ p.1)) : IsFar (m ++ [p]) b w := by
  rcases h with ⟨h1, h2, h3⟩ | ⟨h1, h2⟩
  · omega
  · right
    refine ⟨by simp [h1], fun q hq => ?_⟩
    rcases List.mem_append.1 hq with hq | hq
    · exact h2 q hq
    · simp at hq; subst hq; omega
theorem IsFar.uniq {m n : List (Int × Int)} {a b v w : Int} (h : IsFar m a v) (h2 : IsFar n b w) (hp : m.Perm n) : a = b := by
  rcases h with ⟨h1, e1, _⟩ | ⟨h1, g1⟩
  · subst h1
    have : n = [] := List.length_eq_zero_iff.1 hp.length_eq.symm
    subst this
    rcases h2 with ⟨_, e2, _⟩ | ⟨h3, _⟩
    · omega
    · cases h3
  · rcases h2 with ⟨h3, _⟩ | ⟨h3, g2⟩
    · subst h3
      have : m = [] := List.length_eq_zero_iff.1 hp.length_eq
      subst this; cases h1
    · have q1 := g1 _ (hp.mem_iff.2 h3)
      have q2 := g2 _ (hp.mem_iff.1 h1)
      simp only at q1 q2; omega
theorem far_is {m : List (Int × Int)} (h0 : ∀ p ∈ m, 0 ≤ p.2) : IsFar m (far m) (farFold m).2 := by
  have key : ∀ (t s : List (Int × Int)) (b w : Int), IsFar s b w → (∀ p ∈ t, 0 ≤ p.2) → IsFar (s ++ t) (t.foldl (fun s p => if better p s.1 s.2 then p else s) (b, w)).1 (t.foldl (fun s p => if better p s.1 s.2 then p else s) (b, w)).2 := by
    intro t
    induction t with
    | nil => intro s b w h _; simpa using h
    | cons p t ih =>
      intro s b w h hp
      have e : s ++ p :: t = (s ++ [p]) ++ t := by simp
      rw [e, List.foldl_cons]
      have h1 := hp p (by simp)
      cases hb : better p b w
      · simp only [better, Bool.or_eq_false_iff, decide_eq_false_iff_not, Bool.and_eq_false_iff, beq_eq_false_iff_ne] at hb
        have hb2 : better p b w = false := by simp only [better, Bool.or_eq_false_iff, decide_eq_false_iff_not, Bool.and_eq_false_iff, beq_eq_false_iff_ne]; exact hb
        simp only [hb2, Bool.false_eq_true, if_false]
        exact ih _ b w (h.skip h1 (by omega)) (fun q hq => hp q (by simp [hq]))
      · simp only [better, Bool.or_eq_true, decide_eq_true_eq, Bool.and_eq_true, beq_iff_eq] at hb
        have hb2 : better p b w = true := by simp only [better, Bool.or_eq_true, decide_eq_true_eq, Bool.and_eq_true, beq_iff_eq]; exact hb
        simp only [hb2, if_true]
        exact ih _ p.1 p.2 (h.take_ h1 hb) (fun q hq => hp q (by simp [hq]))
  exact key m [] (-1) (-1) (.inl ⟨rfl, rfl, rfl⟩) h0
structure FI (m left : List (Int × Int)) (b w : Int) : Prop where
  ex : ∃ done, (done ++ left).Perm m ∧ IsFar done b w
theorem FI.start (m : List (Int × Int)) : FI m m (-1) (-1) := ⟨[], by simp, .inl ⟨rfl, rfl, rfl⟩⟩
theorem FI.mem {m left A C : List (Int × Int)} {b w : Int} {x : Int × Int} (h : FI m left b w) (e : left = A ++ x :: C) (h0 : ∀ p ∈ m, 0 ≤ p.2) : 0 ≤ x.2 := by
  obtain ⟨done, hp, _⟩ := h.ex
  subst e; exact h0 x (hp.mem_iff.1 (by simp))
theorem perm_step {m A C done : List (Int × Int)} {x : Int × Int} (hp : (done ++ (A ++ x :: C)).Perm m) : ((done ++ [x]) ++ (A ++ C)).Perm m := by
  refine List.Perm.trans ?_ hp
  rw [List.append_assoc]
  refine List.Perm.append_left _ ?_
  exact (List.perm_middle (a := x) (l₁ := A) (l₂ := C)).symm
theorem FI.take_ {m left A C : List (Int × Int)} {b w : Int} {x : Int × Int} (h : FI m left b w) (e : left = A ++ x :: C) (h0 : ∀ p ∈ m, 0 ≤ p.2) (hb : w < x.2 ∨ (x.2 = w ∧ x.1 < b)) : FI m (A ++ C) x.1 x.2 := by
  have hx := h.mem e h0
  obtain ⟨done, hp, hf⟩ := h.ex
  subst e; exact ⟨done ++ [x], perm_step hp, hf.take_ hx hb⟩
theorem FI.skip {m left A C : List (Int × Int)} {b w : Int} {x : Int × Int} (h : FI m left b w) (e : left = A ++ x :: C) (h0 : ∀ p ∈ m, 0 ≤ p.2) (hb : x.2 ≤ w ∧ (x.2 ≠ w ∨ b ≤ x.1)) : FI m (A ++ C) b w := by
  have hx := h.mem e h0
  obtain ⟨done, hp, hf⟩ := h.ex
  subst e; exact ⟨done ++ [x], perm_step hp, hf.skip hx hb⟩
theorem FI.done {m left : List (Int × Int)} {b w : Int} (h : FI m left b w) (e : left = []) (h0 : ∀ p ∈ m, 0 ≤ p.2) : b = far m := by
  obtain ⟨done, hp, hf⟩ := h.ex
  subst e; rw [List.append_nil] at hp
  exact hf.uniq (far_is h0) hp
/-! ### Evictions -/
structure EInv (l : List Int) (room : Int) (m : List (Int × Int)) (o : List Int) (mis : Int) (i : Nat) : Prop where
  le : i ≤ l.length
  nodup : (m.map (·.1)).Nodup
  mem : ∀ x, x ∈ m.map (·.1) ↔ x ∈ (go l room i).1
  val : ∀ p ∈ m, p.2 = ((ca l i p.1 : Nat) : Int)
  out : o = (go l room i).2.1
  mis : mis = (go l room i).2.2
theorem EInv.start (l : List Int) (room : Int) : EInv l room [] [] 0 0 := { le := Nat.zero_le _, nodup := List.nodup_nil, mem := fun x => by simp [go], val := fun p hp => absurd hp (by simp), out := rfl, mis := rfl }
theorem EInv.len {l : List Int} {room : Int} {m : List (Int × Int)} {o : List Int} {mis : Int} {i : Nat} (h : EInv l room m o mis i) (hr : 1 ≤ room) : m.length = (go l room i).1.length := by
  have h1 := Belady.len_eq (GInv.all hr i h.le).nodup h.nodup h.mem
  simpa using h1
theorem EInv.bd {l : List Int} {room : Int} {m : List (Int × Int)} {o : List Int} {mis : Int} {i : Nat} (h : EInv l room m o mis i) (hr : 1 ≤ room) : o.length = i ∧ 0 ≤ mis ∧ mis ≤ i := by
  have g := GInv.all hr i h.le
  rw [h.out, h.mis]; exact ⟨g.glen, g.n0, g.n1⟩
theorem EInv.pos {l : List Int} {room : Int} {m : List (Int × Int)} {o : List Int} {mis : Int} {i : Nat} (h : EInv l room m o mis i) : ∀ p ∈ m, 0 ≤ p.2 := fun p hp => by rw [h.val p hp]; omega
theorem EInv.hit_iff {l : List Int} {room : Int} {m : List (Int × Int)} {o : List Int} {mis : Int} {i : Nat} (h : EInv l room m o mis i) (k : Int) : (AL.get m k).isSome = true ↔ k ∈ (go l room i).1 := by rw [AL.get_isSome, h.mem]
theorem val_set {l : List Int} {m : List (Int × Int)} {i : Nat} (hn : (m.map (·.1)).Nodup) (hi : i < l.length) (hv : ∀ p ∈ m, p.1 ≠ l[i] → p.2 = ((ca l i p.1 : Nat) : Int)) {nx : Int} (hx : nx = ((ca l (i + 1) l[i] : Nat) : Int)) : ∀ p ∈ AL.set m l[i] nx, p.2 = ((ca l (i + 1) p.1 : Nat) : Int) := by
  intro p hp
  rcases (AL.set_mem hn).1 hp with rfl | ⟨h1, h2⟩
  · exact hx
  · rw [hv p h1 h2, ca_next hi (fun e => h2 e.symm)]
theorem set_mem_keys {m : List (Int × Int)} (k v x : Int) : x ∈ (AL.set m k v).map (·.1) ↔ x = k ∨ x ∈ m.map (·.1) := by
  rw [AL.set_keys]; split
  · rename_i h
    constructor
    · exact .inr
    · rintro (rfl | h2)
      · exact h
      · exact h2
  · simp [or_comm]
theorem go_succ (l : List Int) (room : Int) (i : Nat) : go l room (i + 1) = ((step l room i (go l room i).1).1, (go l room i).2.1 ++ [(step l room i (go l room i).1).2.1], (go l room i).2.2 + (step l room i (go l room i).1).2.2) := rfl
theorem EInv.hit {l : List Int} {room : Int} {m : List (Int × Int)} {o : List Int} {mis : Int} {i : Nat} (h : EInv l room m o mis i) (hr : 1 ≤ room) (hi : i < l.length) (hk : (AL.get m l[i]).isSome = true) {nx : Int} (hx : nx = ((ca l (i + 1) l[i] : Nat) : Int)) : EInv l room (AL.set m l[i] nx) (o ++ [-1]) mis (i + 1) := by
  have hC := (h.hit_iff l[i]).1 hk
  have hs : step l room i (go l room i).1 = ((go l room i).1, -1, 0) := by unfold step; rw [getD_eq hi, if_pos hC]
  rw [show EInv l room (AL.set m l[i] nx) (o ++ [-1]) mis (i + 1) ↔ _ from Iff.rfl]
  refine ⟨by omega, AL.set_nodup h.nodup _ _, fun x => ?_, val_set h.nodup hi (fun p hp _ => h.val p hp) hx, by rw [go_succ, hs, h.out], by rw [go_succ, hs, h.mis]; simp⟩
  rw [go_succ, hs, set_mem_keys, h.mem]
  constructor
  · rintro (rfl | h2)
    · exact hC
    · exact h2
  · exact .inr
theorem EInv.add {l : List Int} {room : Int} {m : List (Int × Int)} {o : List Int} {mis : Int} {i : Nat} (h : EInv l room m o mis i) (hr : 1 ≤ room) (hi : i < l.length) (hk : (AL.get m l[i]).isSome = false) (hl : (m.length : Int) ≠ room) {nx : Int} (hx : nx = ((ca l (i + 1) l[i] : Nat) : Int)) : EInv l room (AL.set m l[i] nx) (o ++ [-1]) (mis + 1) (i + 1) := by
  have hC : l[i] ∉ (go l room i).1 := fun h2 => by rw [(h.hit_iff l[i]).2 h2] at hk; cases hk
  have hlen := h.len hr
  have g := GInv.all hr i h.le
  have hs : step l room i (go l room i).1 = ((go l room i).1 ++ [l[i]], -1, 1) := by unfold step; rw [getD_eq hi, if_neg hC, if_pos (by have := g.len; omega)]
  refine ⟨by omega, AL.set_nodup h.nodup _ _, fun x => ?_, val_set h.nodup hi (fun p hp _ => h.val p hp) hx, by rw [go_succ, hs, h.out], by rw [go_succ, hs, h.mis]⟩
  rw [go_succ, hs, set_mem_keys, h.mem]; simp [or_comm]
theorem EInv.far_eq {l : List Int} {room : Int} {m : List (Int × Int)} {o : List Int} {mis : Int} {i : Nat} (h : EInv l room m o mis i) (hr : 1 ≤ room) (hl : (m.length : Int) = room) : ∃ hb : best l i (go l room i).1 < (go l room i).1.length, far m = (go l room i).1[best l i (go l room i).1] := by
  have hlen := h.len hr
  have h0 : 0 < (go l room i).1.length := by omega
  refine ⟨best_lt h0, ?_⟩
  have hf := far_is h.pos
  refine Far.uniq (l := l) (i := i) (C := m.map (·.1)) (D := (go l room i).1) ?_ (best_far h0) h.mem
  rcases hf with ⟨h1, _⟩ | ⟨h1, h2⟩
  · subst h1; simp at hlen; omega
  · refine ⟨List.mem_map.2 ⟨_, h1, rfl⟩, fun c hc => ?_⟩
    obtain ⟨p, hp, rfl⟩ := List.mem_map.1 hc
    have h3 := h2 p hp
    have h4 := h.val p hp
    have h5 := h.val _ h1
    simp only at h5
    simp only [later, Bool.or_eq_false_iff, decide_eq_false_iff_not, Bool.and_eq_false_iff]
    omega
theorem EInv.evict {l : List Int} {room : Int} {m : List (Int × Int)} {o : List Int} {mis : Int} {i : Nat} (h : EInv l room m o mis i) (hr : 1 ≤ room) (hi : i < l.length) (hk : (AL.get m l[i]).isSome = false) (hl : (m.length : Int) = room) {nx : Int} (hx : nx = ((ca l (i + 1) l[i] : Nat) : Int)) : EInv l room (AL.set (AL.del m (far m)) l[i] nx) (o ++ [far m]) (mis + 1) (i + 1) := by
  have hC : l[i] ∉ (go l room i).1 := fun h2 => by rw [(h.hit_iff l[i]).2 h2] at hk; cases hk
  obtain ⟨hb, hf⟩ := h.far_eq hr hl
  have hlen := h.len hr
  have g := GInv.all hr i h.le
  have hs : step l room i (go l room i).1 = ((go l room i).1.set (best l i (go l room i).1) l[i], far m, 1) := by
    unfold step; rw [getD_eq hi, if_neg hC, if_neg (by omega), getD_eq hb, hf]
  have hnd := AL.del_nodup h.nodup (far m)
  refine ⟨by omega, AL.set_nodup hnd _ _, fun x => ?_, val_set hnd hi (fun p hp _ => h.val p ((AL.del_mem h.nodup).1 hp).1) hx, by rw [go_succ, hs, h.out], by rw [go_succ, hs, h.mis]⟩
  rw [go_succ, hs, set_mem_keys, mem_set' g.nodup hb, ← hf, AL.del_keys, h.nodup.mem_erase_iff, h.mem, and_comm]
theorem EInv.done {l : List Int} {room : Int} {m : List (Int × Int)} {o : List Int} {mis : Int} {i : Nat} (h : EInv l room m o mis i) (hi : l.length ≤ i) : (o, mis) = (go l room l.length).2 := by
  have : i = l.length := by have := h.le; omega
  subst this; rw [h.out, h.mis]
theorem ev_cases (l : List Int) (room : Int) : (Lru.trace l ≠ 0 ∧ ev l room = ([], 0) ∧ evErr l room = Lru.trace l) ∨ (Lru.trace l = 0 ∧ Lru.okRoom room = false ∧ ev l room = ([], 0) ∧ evErr l room = 3) ∨ (Lru.trace l = 0 ∧ Lru.okRoom room = true ∧ ev l room = (go l room l.length).2 ∧ evErr l room = 0) := by
  unfold ev
  by_cases hc : Lru.trace l = 0
  · cases hr : Lru.okRoom room
    · have e : evErr l room = 3 := by unfold evErr; rw [if_pos hc, if_neg (by simp [hr])]
      exact .inr (.inl ⟨hc, rfl, by rw [e]; rfl, e⟩)
    · have e : evErr l room = 0 := by unfold evErr; rw [if_pos hc, if_pos hr]
      exact .inr (.inr ⟨hc, rfl, by rw [if_pos e], e⟩)
  · have e : evErr l room = Lru.trace l := if_neg hc
    exact .inl ⟨hc, by rw [e, if_neg hc], e⟩
theorem ev1 {l : List Int} {room : Int} (h : Lru.trace l ≠ 0) : ev l room = ([], 0) ∧ evErr l room = Lru.trace l := by
  rcases ev_cases l room with ⟨_, b⟩ | ⟨a, _⟩ | ⟨a, _⟩ <;> first | exact b | exact absurd a h
theorem ev2 {l : List Int} {room : Int} (h : Lru.trace l = 0) (h2 : Lru.okRoom room = false) : ev l room = ([], 0) ∧ evErr l room = 3 := by
  rcases ev_cases l room with ⟨a, _⟩ | ⟨_, _, b⟩ | ⟨_, a, _⟩ <;> first | exact b | exact absurd h a | (rw [h2] at a; cases a)
theorem ev3 {l : List Int} {room : Int} (h : Lru.trace l = 0) (h2 : Lru.okRoom room = true) : ev l room = (go l room l.length).2 ∧ evErr l room = 0 := by
  rcases ev_cases l room with ⟨a, _⟩ | ⟨_, a, _⟩ | ⟨_, _, b⟩ <;> first | exact b | exact absurd h a | (rw [h2] at a; cases a)
theorem ev_ok {l : List Int} {room : Int} (h : evErr l room = 0) : Lru.trace l = 0 ∧ Lru.okRoom room = true ∧ ev l room = (go l room l.length).2 := by
  rcases ev_cases l room with ⟨a, _, b⟩ | ⟨_, _, _, b⟩ | ⟨a, b, d, _⟩ <;> first | exact ⟨a, b, d⟩ | omega
theorem ev_bad {l : List Int} {room : Int} (h : evErr l room ≠ 0) : ev l room = ([], 0) := if_neg h
theorem nx_cases (l : List Int) (i : Int) : (Lru.trace l ≠ 0 ∧ next l i = 0 ∧ nextErr l i = Lru.trace l) ∨ (Lru.trace l = 0 ∧ (i < 0 ∨ (l.length : Int) ≤ i) ∧ next l i = 0 ∧ nextErr l i = 3) ∨ (Lru.trace l = 0 ∧ (0 ≤ i ∧ i < (l.length : Int)) ∧ next l i = (ca l (i.toNat + 1) (l.getD i.toNat 0) : Nat) ∧ nextErr l i = 0) := by
  unfold next
  by_cases hc : Lru.trace l = 0
  · by_cases hr : i < 0 ∨ (l.length : Int) ≤ i
    · have e : nextErr l i = 3 := by unfold nextErr; rw [if_pos hc, if_pos hr]
      exact .inr (.inl ⟨hc, hr, by rw [e]; rfl, e⟩)
    · have e : nextErr l i = 0 := by unfold nextErr; rw [if_pos hc, if_neg hr]
      exact .inr (.inr ⟨hc, by omega, by rw [if_pos e], e⟩)
  · have e : nextErr l i = Lru.trace l := if_neg hc
    exact .inl ⟨hc, by rw [e, if_neg hc], e⟩
theorem nx1 {l : List Int} {i : Int} (h : Lru.trace l ≠ 0) : next l i = 0 ∧ nextErr l i = Lru.trace l := by
  rcases nx_cases l i with ⟨_, b⟩ | ⟨a, _⟩ | ⟨a, _⟩ <;> first | exact b | exact absurd a h
theorem nx2 {l : List Int} {i : Int} (h : Lru.trace l = 0) (h2 : i < 0 ∨ (l.length : Int) ≤ i) : next l i = 0 ∧ nextErr l i = 3 := by
  rcases nx_cases l i with ⟨a, _⟩ | ⟨_, _, b⟩ | ⟨_, a, _⟩ <;> first | exact b | exact absurd h a | omega
theorem nx3 {l : List Int} {i : Int} (h : Lru.trace l = 0) (h2 : 0 ≤ i ∧ i < (l.length : Int)) (hl : i.toNat < l.length) : next l i = (ca l (i.toNat + 1) l[i.toNat] : Nat) ∧ nextErr l i = 0 := by
  rcases nx_cases l i with ⟨a, _⟩ | ⟨_, a, _⟩ | ⟨_, _, b⟩ <;> first | exact absurd h a | omega | (rw [getD_eq hl] at b; exact b)
/-! ### the references -/
structure CI (l : List Int) (f : Nat) (key : Int) (k : Int) : Prop where
  lo : (f : Int) ≤ k
  hi : k ≤ (l.length : Int)
  no : ∀ q (h : q < l.length), f ≤ q → (q : Int) < k → l[q] ≠ key
theorem CI.start {l : List Int} {f : Nat} (key : Int) (h : f ≤ l.length) : CI l f key f := ⟨Int.le_refl _, by omega, fun q h h1 h2 => by omega⟩
theorem CI.next {l : List Int} {f : Nat} {key k : Int} (h : CI l f key k) (hk : k.toNat < l.length) (hx : l[k.toNat] ≠ key) : CI l f key (k + 1) := ⟨by have := h.lo; omega, by have := h.lo; omega, fun q hq h1 h2 => by
  by_cases e : q = k.toNat
  · subst e; exact hx
  · exact h.no q hq h1 (by have := h.lo; omega)⟩
theorem CI.found {l : List Int} {f : Nat} {key k : Int} (h : CI l f key k) (hk : k.toNat < l.length) (hx : l[k.toNat] = key) : k = ((ca l f key : Nat) : Int) := by
  have := ca_found (l := l) (i := f) (j := k.toNat) hk (by have := h.lo; omega) hx (fun q hq h1 h2 => h.no q hq h1 (by have := h.lo; omega))
  rw [this]; have := h.lo; omega
theorem CI.none {l : List Int} {f : Nat} {key k : Int} (h : CI l f key k) (hf : f ≤ l.length) (hk : (l.length : Int) ≤ k) : (l.length : Int) = ((ca l f key : Nat) : Int) := by
  rw [ca_none hf (fun q hq h1 => h.no q hq h1 (by omega))]
structure BI (l : List Int) (i : Nat) (C : List Int) (best k : Int) : Prop where
  lo : 1 ≤ k
  hi : k ≤ (C.length : Int)
  is : best = ((bestTo l i C k.toNat : Nat) : Int)
theorem bestTo_one (l : List Int) (i : Nat) (C : List Int) : bestTo l i C 1 = 0 := by rw [bestTo]; split <;> rfl
theorem BI.start {l : List Int} {i : Nat} {C : List Int} (h : 0 < C.length) : BI l i C 0 1 := ⟨Int.le_refl _, by omega, by rw [show (1 : Int).toNat = 1 from rfl, bestTo_one]; rfl⟩
theorem BI.bd {l : List Int} {i : Nat} {C : List Int} {best k : Int} (h : BI l i C best k) (h0 : 0 < C.length) : 0 ≤ best ∧ best < (C.length : Int) := by
  have := bestTo_lt (l := l) (i := i) (C := C) k.toNat (by have := h.hi; omega) h0
  rw [h.is]; omega
theorem BI.take_ {l : List Int} {i : Nat} {C : List Int} {best k : Int} (h : BI l i C best k) (hk : k.toNat < C.length) (hb : best.toNat < C.length) (hc : ((ca l i C[best.toNat] : Nat) : Int) < ((ca l i C[k.toNat] : Nat) : Int) ∨ (((ca l i C[k.toNat] : Nat) : Int) = ((ca l i C[best.toNat] : Nat) : Int) ∧ C[k.toNat] < C[best.toNat])) : BI l i C k (k + 1) := by
  have h1 := h.lo
  refine ⟨by omega, by omega, ?_⟩
  have eb : bestTo l i C k.toNat = best.toNat := by rw [h.is]; omega
  rw [show (k + 1).toNat = k.toNat + 1 by omega, bestTo, eb, getD_eq hk, getD_eq hb, if_pos (by simp [later]; omega)]; omega
theorem BI.skip {l : List Int} {i : Nat} {C : List Int} {best k : Int} (h : BI l i C best k) (hk : k.toNat < C.length) (hb : best.toNat < C.length) (hc : ((ca l i C[k.toNat] : Nat) : Int) ≤ ((ca l i C[best.toNat] : Nat) : Int) ∧ (((ca l i C[k.toNat] : Nat) : Int) ≠ ((ca l i C[best.toNat] : Nat) : Int) ∨ C[best.toNat] ≤ C[k.toNat])) : BI l i C best (k + 1) := by
  have h1 := h.lo
  refine ⟨by omega, by omega, ?_⟩
  have hb0 : 0 ≤ best := by rw [h.is]; omega
  have eb : bestTo l i C k.toNat = best.toNat := by rw [h.is]; omega
  rw [show (k + 1).toNat = k.toNat + 1 by omega, bestTo, eb, getD_eq hk, getD_eq hb, if_neg (by simp [later]; omega)]; omega
theorem BI.done {l : List Int} {i : Nat} {C : List Int} {best_ k : Int} (h : BI l i C best_ k) (hk : (C.length : Int) ≤ k) : best_ = ((best l i C : Nat) : Int) := by
  have := h.hi; rw [h.is, show k.toNat = C.length by omega]; rfl
structure RI (l : List Int) (room : Int) (C o : List Int) (mis : Int) (i : Nat) : Prop where
  le : i ≤ l.length
  C : C = (go l room i).1
  o : o = (go l room i).2.1
  mis : mis = (go l room i).2.2
theorem RI.start (l : List Int) (room : Int) : RI l room [] [] 0 0 := ⟨Nat.zero_le _, rfl, rfl, rfl⟩
theorem RI.bd {l : List Int} {room : Int} {C o : List Int} {mis : Int} {i : Nat} (h : RI l room C o mis i) (hr : 1 ≤ room) : C.length ≤ i ∧ (C.length : Int) ≤ room ∧ o.length = i ∧ 0 ≤ mis ∧ mis ≤ i := by
  have g := GInv.all hr i h.le
  have h2 : (go l room i).1.length ≤ i := by
    have : ∀ j, j ≤ l.length → (go l room j).1.length ≤ j := by
      intro j
      induction j with
      | zero => intro _; simp [go]
      | succ j ih =>
        intro hj
        have := ih (by omega)
        rw [go_succ]
        rcases step_cases l room j (go l room j).1 (by omega) hr with ⟨_, e⟩ | ⟨_, _, e⟩ | ⟨_, _, _, e⟩ <;> rw [e] <;> simp <;> omega
    exact this i h.le
  rw [h.C, h.o, h.mis]; exact ⟨h2, g.len, g.glen, g.n0, g.n1⟩
theorem RI.hit {l : List Int} {room : Int} {C o : List Int} {mis : Int} {i : Nat} (h : RI l room C o mis i) (hi : i < l.length) (hk : Ref.hasInt C l[i] = true) : RI l room C (o ++ [-1]) mis (i + 1) := by
  have hk2 : l[i] ∈ C := of_decide_eq_true hk
  rw [h.C] at hk2
  have hs : step l room i (go l room i).1 = ((go l room i).1, -1, 0) := by unfold step; rw [getD_eq hi, if_pos hk2]
  exact ⟨by omega, by rw [go_succ, hs, h.C], by rw [go_succ, hs, h.o], by rw [go_succ, hs, h.mis]; simp⟩
theorem RI.add {l : List Int} {room : Int} {C o : List Int} {mis : Int} {i : Nat} (h : RI l room C o mis i) (hi : i < l.length) (hk : Ref.hasInt C l[i] = false) (hl : (C.length : Int) < room) : RI l room (C ++ [l[i]]) (o ++ [-1]) (mis + 1) (i + 1) := by
  have hk2 : l[i] ∉ C := of_decide_eq_false hk
  rw [h.C] at hk2 hl
  have hs : step l room i (go l room i).1 = ((go l room i).1 ++ [l[i]], -1, 1) := by unfold step; rw [getD_eq hi, if_neg hk2, if_pos hl]
  exact ⟨by omega, by rw [go_succ, hs, h.C], by rw [go_succ, hs, h.o], by rw [go_succ, hs, h.mis]⟩
theorem RI.evict {l : List Int} {room : Int} {C o : List Int} {mis : Int} {i : Nat} (h : RI l room C o mis i) (hi : i < l.length) (hk : Ref.hasInt C l[i] = false) (hl : room ≤ (C.length : Int)) {b : Int} (hb : b = ((best l i C : Nat) : Int)) (hbl : b.toNat < C.length) : RI l room (C.set b.toNat l[i]) (o ++ [C[b.toNat]]) (mis + 1) (i + 1) := by
  have hk2 : l[i] ∉ C := of_decide_eq_false hk
  have e : b.toNat = best l i C := by omega
  have hs : step l room i (go l room i).1 = (C.set b.toNat l[i], C[b.toNat], 1) := by
    rw [← h.C]; unfold step; rw [getD_eq hi, if_neg hk2, if_neg (by omega), ← e, getD_eq hbl]
  exact ⟨by omega, by rw [go_succ, hs], by rw [go_succ, hs, h.o], by rw [go_succ, hs, h.mis]⟩
theorem RI.done {l : List Int} {room : Int} {C o : List Int} {mis : Int} {i : Nat} (h : RI l room C o mis i) (hi : l.length ≤ i) : o = (go l room l.length).2.1 ∧ mis = (go l room l.length).2.2 := by
  have : i = l.length := by have := h.le; omega
  subst this; exact ⟨h.o, h.mis⟩
end Go.Sx.Opt
namespace Go.Sx.Opt
theorem quo_bd {a b : Int} (ha : 0 ≤ a) (hb : 1 ≤ b) : 0 ≤ a.tdiv b ∧ a.tdiv b ≤ a := by
  rw [Int.tdiv_eq_ediv_of_nonneg ha]
  exact ⟨Int.ediv_nonneg ha (by omega), Int.ediv_le_self b ha⟩
theorem bd1 {misses room least : Int} (h : ((misses < 0 ∨ 200 < misses) ∨ Lru.okRoom room = false) ∨ Lru.okRoom least = false) : 0 = bound misses room least ∧ 3 = boundErr misses room least := by
  have e : boundErr misses room least = 3 := if_pos h
  exact ⟨by unfold bound; rw [e]; rfl, e.symm⟩
theorem bd2 {misses room least : Int} (h : ((0 ≤ misses ∧ misses ≤ 200) ∧ Lru.okRoom room = true) ∧ Lru.okRoom least = true) (h2 : room < least) : 0 = bound misses room least ∧ 4 = boundErr misses room least := by
  have e : boundErr misses room least = 4 := by unfold boundErr; rw [if_neg (by rcases h with ⟨⟨⟨a, b⟩, c⟩, d⟩; simp [c, d]; omega), if_pos h2]
  exact ⟨by unfold bound; rw [e]; rfl, e.symm⟩
theorem bd3 {misses room least : Int} (h : ((0 ≤ misses ∧ misses ≤ 200) ∧ Lru.okRoom room = true) ∧ Lru.okRoom least = true) (h2 : least ≤ room) : (room * misses).tdiv (room - least + 1) + room = bound misses room least ∧ 0 = boundErr misses room least := by
  have e : boundErr misses room least = 0 := by unfold boundErr; rw [if_neg (by rcases h with ⟨⟨⟨a, b⟩, c⟩, d⟩; simp [c, d]; omega), if_neg (by omega)]
  exact ⟨by unfold bound; rw [if_pos e], e.symm⟩
end Go.Sx.Opt
namespace Go.Sx.Opt
theorem js1 {l : List Int} {room : Int} (h : Lru.trace l = 0) (h2 : room < 1 ∨ 40 < room) : 3 = evErr l room := (ev2 h (by simp only [Lru.okRoom]; rcases h2 with h | h <;> simp <;> omega)).2.symm
theorem js2 {l : List Int} {room : Int} (h : ¬ Lru.trace l = 0 ∨ (1 ≤ room ∧ room ≤ 40)) : Lru.trace l = evErr l room := by
  by_cases h1 : Lru.trace l = 0
  · rw [(ev3 h1 (by simp [Lru.okRoom]; omega)).2, h1]
  · exact (ev1 h1).2.symm
theorem jn1 {l : List Int} {i : Int} (h : Lru.trace l = 0) (h2 : i < 0 ∨ (l.length : Int) ≤ i) : 3 = nextErr l i ∧ 0 = next l i := ⟨(nx2 h h2).2.symm, (nx2 h h2).1.symm⟩
theorem jn2 {l : List Int} {i : Int} (h : Lru.trace l = 0) (h2 : 0 ≤ i ∧ i < (l.length : Int)) : Lru.trace l = nextErr l i ∧ ((ca l (i.toNat + 1) (l.getD i.toNat 0) : Nat) : Int) = next l i := by
  have h3 := nx3 h h2 (by omega)
  rw [getD_eq (by omega)]; exact ⟨by rw [h3.2, h], h3.1.symm⟩
theorem jn3 {l : List Int} {i : Int} (h : ¬ Lru.trace l = 0) : Lru.trace l = nextErr l i ∧ 0 = next l i := ⟨(nx1 h).2.symm, (nx1 h).1.symm⟩
theorem room_yes {n : Int} (h : 1 ≤ n ∧ n ≤ 40) : Lru.okRoom n = true := by simp [Lru.okRoom]; omega
theorem room_no {n : Int} (h : n < 1 ∨ 40 < n) : Lru.okRoom n = false := by simp only [Lru.okRoom]; rcases h with h | h <;> simp <;> omega
theorem jb1 {misses room least : Int} (h : ((((misses < 0 ∨ 200 < misses) ∨ room < 1) ∨ 40 < room) ∨ least < 1) ∨ 40 < least) : 3 = boundErr misses room least ∧ 0 = bound misses room least := by
  have h2 : ((misses < 0 ∨ 200 < misses) ∨ Lru.okRoom room = false) ∨ Lru.okRoom least = false := by
    rcases h with ((((h | h) | h) | h) | h) | h
    · exact .inl (.inl (.inl h))
    · exact .inl (.inl (.inr h))
    · exact .inl (.inr (room_no (.inl h)))
    · exact .inl (.inr (room_no (.inr h)))
    · exact .inr (room_no (.inl h))
    · exact .inr (room_no (.inr h))
  exact ⟨(bd1 h2).2, (bd1 h2).1⟩
structure QI (misses room least b : Int) : Prop where
  m : 0 ≤ misses ∧ misses ≤ 200
  r : 1 ≤ room ∧ room ≤ 40
  h : 1 ≤ least ∧ least ≤ room
  lo : room ≤ b
  le : (b - room) * (room - least + 1) ≤ room * misses
theorem QI.start {misses room least : Int} (h : 0 ≤ misses ∧ misses ≤ 200) (h2 : 1 ≤ room ∧ room ≤ 40) (h3 : 1 ≤ least) (h4 : least ≤ room) : QI misses room least room := ⟨h, h2, ⟨h3, h4⟩, Int.le_refl _, by rw [Int.sub_self, Int.zero_mul]; exact Int.mul_nonneg (by omega) (by omega)⟩
theorem QI.rm {misses room least b : Int} (h : QI misses room least b) : 0 ≤ room * misses ∧ room * misses ≤ 8000 := by
  have h1 := h.m; have h2 := h.r
  exact ⟨Int.mul_nonneg (by omega) (by omega), Int.le_trans (Int.mul_le_mul h2.2 h1.2 (by omega) (by omega)) (by decide)⟩
theorem QI.bd {misses room least b : Int} (h : QI misses room least b) : b - room ≤ 8000 ∧ 0 ≤ (b - room + 1) * (room - least + 1) ∧ (b - room + 1) * (room - least + 1) ≤ 320040 := by
  have h1 := h.rm; have h2 := h.h; have h3 := h.r; have h4 := h.lo
  have h5 : (b - room) * 1 ≤ (b - room) * (room - least + 1) := Int.mul_le_mul_of_nonneg_left (by omega) (by omega)
  have h6 : b - room ≤ 8000 := by have := h.le; omega
  exact ⟨h6, Int.mul_nonneg (by omega) (by omega), Int.le_trans (Int.mul_le_mul (show b - room + 1 ≤ 8001 by omega) (show room - least + 1 ≤ 40 by omega) (by omega) (by omega)) (by decide)⟩
theorem QI.next {misses room least b : Int} (h : QI misses room least b) (hc : (b - room + 1) * (room - least + 1) ≤ room * misses) : QI misses room least (b + 1) := ⟨h.m, h.r, h.h, by have := h.lo; omega, by rw [show b + 1 - room = b - room + 1 by omega]; exact hc⟩
theorem QI.lt {misses room least b : Int} (h : QI misses room least b) (hc : (b - room + 1) * (room - least + 1) ≤ room * misses) : b - room < 8000 := (by have := (h.next hc).bd.1; omega)
theorem QI.done {misses room least b : Int} (h : QI misses room least b) (hc : room * misses < (b - room + 1) * (room - least + 1)) : 0 = boundErr misses room least ∧ b = bound misses room least := by
  have h2 := bd3 (misses := misses) (room := room) (least := least) ⟨⟨h.m, room_yes h.r⟩, room_yes (by have := h.h; have := h.r; omega)⟩ h.h.2
  refine ⟨h2.2, ?_⟩
  rw [← h2.1, Int.tdiv_eq_ediv_of_nonneg h.rm.1]
  have hd : 0 < room - least + 1 := by have := h.h; omega
  have h3 : (room * misses) / (room - least + 1) = b - room := by
    have h4 : b - room ≤ (room * misses) / (room - least + 1) := Int.le_ediv_of_mul_le hd h.le
    have h5 : (room * misses) / (room - least + 1) < b - room + 1 := Int.ediv_lt_of_lt_mul hd hc
    omega
  rw [h3]; omega
theorem jb2 {misses room least : Int} (h : ((((0 ≤ misses ∧ misses ≤ 200) ∧ 1 ≤ room) ∧ room ≤ 40) ∧ 1 ≤ least) ∧ least ≤ 40) (h2 : room < least) : 4 = boundErr misses room least ∧ 0 = bound misses room least := by
  have := bd2 (misses := misses) (room := room) (least := least) ⟨⟨by omega, room_yes (by omega)⟩, room_yes (by omega)⟩ h2
  exact ⟨this.2, this.1⟩
/-! ### the fewest -/
theorem few_bd {room top : Int} (h0 : 0 ≤ top) : ∀ {t C : List Int}, 0 ≤ few room top C t ∧ few room top C t ≤ top + t.length := by
  intro t
  induction t with
  | nil => intro C; rw [show few room top C [] = 0 by unfold few; rfl]; simp only [List.length_nil]; omega
  | cons k t ih =>
    intro C
    rw [few_cons]
    simp only [List.length_cons]
    split
    · have := ih (C := C); omega
    · split
      · have := ih (C := C ++ [k]); omega
      · obtain ⟨a, b, c⟩ := fold_spec (fun j => 1 + few room top (C.set j k) t) top C.length
        rcases c with c | ⟨j, _, c⟩
        · omega
        · have := ih (C := C.set j k); rw [c]; omega
structure WI (l C : List Int) (room top : Int) (a b : Int) : Prop where
  lo : a ≤ b
  hi : b ≤ (l.length : Int)
  eq : few room top C (l.drop b.toNat) = few room top C (l.drop a.toNat)
theorem WI.start {l C : List Int} {room top a : Int} (h : a ≤ (l.length : Int)) : WI l C room top a a := ⟨Int.le_refl _, h, rfl⟩
theorem WI.next {l C : List Int} {room top a b : Int} (h : WI l C room top a b) (ha : 0 ≤ a) (hb : b.toNat < l.length) (hc : Ref.hasInt C (l.getD b.toNat default) = true) : WI l C room top a (b + 1) := ⟨by have := h.lo; omega, by have := h.lo; omega, by
  have h1 := h.lo
  rw [← getd_at hb default] at hc
  rw [← h.eq, show (b + 1).toNat = b.toNat + 1 by omega, List.drop_eq_getElem_cons hb, few_cons, if_pos (of_decide_eq_true hc)]⟩
theorem WI.end_ {l C : List Int} {room top a b : Int} (h : WI l C room top a b) (hb : b = (l.length : Int)) : 0 = few room top C (l.drop a.toNat) := by
  rw [← h.eq, List.drop_of_length_le (by omega)]; unfold few; rfl
theorem WI.no {l C : List Int} {room top a b : Int} (h : WI l C room top a b) (hb : b.toNat < l.length) (hc : Ref.hasInt C (l.getD b.toNat default) = false) : few room top C (l.drop a.toNat) = if (C.length : Int) < room then 1 + few room top (C ++ [l.getD b.toNat default]) (l.drop (b.toNat + 1)) else fold (fun j => 1 + few room top (C.set j (l.getD b.toNat default)) (l.drop (b.toNat + 1))) top C.length := by
  rw [← getd_at hb default] at hc ⊢
  rw [← h.eq, List.drop_eq_getElem_cons hb, few_cons, if_neg (of_decide_eq_false hc)]
theorem fold_next {f : Nat → Int} {top : Int} {k : Nat} : fold f top (k + 1) = if f k < fold f top k then f k else fold f top k := fold_succ f top k
theorem fold_bd {room top : Int} (h0 : 0 ≤ top) {C t : List Int} {x : Int} (k : Nat) : fold (fun j => 1 + few room top (C.set j x) t) top k ≤ top ∧ 0 ≤ fold (fun j => 1 + few room top (C.set j x) t) top k := by
  obtain ⟨a, b, c⟩ := fold_spec (fun j => 1 + few room top (C.set j x) t) top k
  refine ⟨b, ?_⟩
  rcases c with c | ⟨j, _, c⟩
  · omega
  · have := (few_bd (room := room) h0 (t := t) (C := C.set j x)).1; rw [c]; omega
theorem fewest_law {l : List Int} {room : Int} (h : evErr l room = 0) : (ev l room).2 = few room ((l.length : Int) + 1) [] l := by
  obtain ⟨h1, h2, h3⟩ := ev_ok h
  rw [h3]; exact fewest (Lru.room_ok h2).1 (Int.le_refl _)
end Go.Sx.Opt

/- LRU: inclusion, parts, what was used last: as the program's statements ask. -/
namespace Go.Sx.Lru
theorem run_n (l : List Int) : ∀ (c : DCache), 0 ≤ (Lru.runGo c 0 l).2 ∧ (Lru.runGo c 0 l).2 ≤ l.length := by
  induction l with
  | nil => intro c; simp [Lru.runGo]
  | cons k l ih =>
    intro c
    rw [Lru.runGo, runGo_add]
    have := ih (touch c k).1
    split <;> simp <;> omega
theorem run_small {c : DCache} {l : List Int} (h : runErr c l = 0) : l.length ≤ 200 := (trace_ok.1 (run_ok h).2.1).1
theorem run_oks {c : DCache} {l : List Int} (h : runErr c l = 0) : Ok (run c l).1 := by
  obtain ⟨a, b, e⟩ := run_ok h
  rw [e]; exact (ok_of a).runGo (trace_ok.1 b).2
theorem parts_err {c : DCache} {l m : List Int} (h : runErr c l = 0) : runErr (run c l).1 m = runErr c (l ++ m) ∨ runErr c (l ++ m) = 2 := by
  have ho := run_oks h
  obtain ⟨a1, a2, a3⟩ := run_ok h
  obtain ⟨t1, t2⟩ := trace_ok.1 a2
  have e1 : runErr (run c l).1 m = trace m := by unfold runErr; rw [if_pos (check_ok.2 ho)]
  have e2 : runErr c (l ++ m) = trace (l ++ m) := by unfold runErr; rw [if_pos a1]
  rw [e1, e2]
  by_cases g : 200 < (l ++ m).length
  · right; unfold trace; rw [if_pos g]
  · left
    have g2 : ¬ 200 < m.length := by rw [List.length_append] at g; omega
    have g3 : (l ++ m).any (fun k => !okKey k) = m.any (fun k => !okKey k) := by
      have : l.any (fun k => !okKey k) = false := List.any_eq_false.2 fun k hk => by simp [t2 k hk]
      rw [List.any_append, this, Bool.false_or]
    unfold trace; rw [if_neg g, if_neg g2, g3]
theorem parts_ok {c : DCache} {l m : List Int} (h : runErr c l = 0) (h2 : runErr (run c l).1 m = 0) (h3 : runErr c (l ++ m) = 0) :
    (run (run c l).1 m).1 = (run c (l ++ m)).1 ∧ (run c (l ++ m)).2 = (run c l).2 + (run (run c l).1 m).2 ∧ 0 ≤ (run c l).2 ∧ (run c l).2 ≤ 200 ∧ 0 ≤ (run (run c l).1 m).2 ∧ (run (run c l).1 m).2 ≤ 200 := by
  obtain ⟨a1, a2, a3⟩ := run_ok h
  obtain ⟨b1, b2, b3⟩ := run_ok h2
  obtain ⟨c1, c2, c3⟩ := run_ok h3
  have n1 := run_n l c
  have n2 := run_n m (run c l).1
  have t1 := (trace_ok.1 a2).1
  have t2 := (trace_ok.1 b2).1
  have e := runGo_append (l := l) (m := m) (c := c) (n := 0)
  rw [runGo_add (l := m)] at e
  rw [b3, c3, e, a3] at *
  exact ⟨rfl, rfl, by omega, by omega, by omega, by omega⟩
theorem parts_bool {c : DCache} {l m : List Int} (h : runErr c l = 0) (h2 : runErr (run c l).1 m = 0) (h3 : runErr c ([] ++ l ++ m) = 0) :
    (decide ((run (run c l).1 m).1 = (run c ([] ++ l ++ m)).1) && ((run c ([] ++ l ++ m)).2 == IntKind.i64.wrap ((run c l).2 + (run (run c l).1 m).2))) = true := by
  obtain ⟨p1, p2, p3, p4, p5, p6⟩ := parts_ok (l := l) h h2 h3
  rw [wrap_i64 (by omega)]
  simp only [List.nil_append]
  simp [p1, p2]
theorem parts_bool2 {c : DCache} {l m : List Int} (h : runErr c l = 0) : (runErr (run c l).1 m == runErr c ([] ++ l ++ m) || runErr c ([] ++ l ++ m) == 2) = true := by
  rcases parts_err (l := l) (m := m) h with e | e
  · simp only [List.nil_append]; simp [e]
  · simp only [List.nil_append]; simp [e]
theorem parts_bool3 {c : DCache} {l : List Int} (h : runErr c l ≠ 0) : ((run c l).2 == 0 && (((run c l).1.keys.length : Int) == 0)) = true := by rw [run_bad h]; rfl
/-! ### Inclusion -/
theorem incl {l : List Int} {small great : Int} (ha : runErr ⟨small, []⟩ l = 0) (hb : runErr ⟨great, []⟩ l = 0) (hs : small ≤ great) :
    (run ⟨small, []⟩ l).2 ≤ (run ⟨great, []⟩ l).2 ∧ (run ⟨small, []⟩ l).1.keys.length ≤ (run ⟨great, []⟩ l).1.keys.length ∧ (run ⟨small, []⟩ l).1.keys = (run ⟨great, []⟩ l).1.keys.take (run ⟨small, []⟩ l).1.keys.length := by
  obtain ⟨a1, a2, a3⟩ := run_ok ha
  obtain ⟨b1, b2, b3⟩ := run_ok hb
  rw [a3, b3]
  obtain ⟨h1, h2⟩ := inclusion (l := l) (a := ⟨small, []⟩) (b := ⟨great, []⟩) (n := 0) (m := 0) (ok_of a1).room.1 hs (by simp) (Int.le_refl 0)
  refine ⟨h1, ?_, ?_⟩
  · rw [h2]; simp; omega
  · have e : (Lru.runGo ⟨small, []⟩ 0 l).1.keys.length = min small.toNat (Lru.runGo ⟨great, []⟩ 0 l).1.keys.length := by rw [h2, List.length_take]
    rw [e, take_min]; exact h2
/-! ### Recent -/
theorem from_ {c : DCache} {l : List Int} (h : runErr c l = 0) {x : Int} (hx : x ∈ (run c l).1.keys) : x ∈ c.keys ∨ x ∈ l := by
  obtain ⟨_, _, e⟩ := run_ok h
  rw [e] at hx; exact runGo_keys x hx
theorem from_no {c : DCache} {l : List Int} {i : Nat} (h : runErr c l = 0) (hi : i < (run c l).1.keys.length) (h1 : Ref.hasInt c.keys (run c l).1.keys[i] = false) (h2 : Ref.hasInt l (run c l).1.keys[i] = false) : False := by
  rcases from_ h (List.getElem_mem hi) with g | g
  · simp [Ref.hasInt] at h1; exact h1 g
  · simp [Ref.hasInt] at h2; exact h2 g
theorem run_nil {c : DCache} {l : List Int} (h : runErr c l = 0) (hl : l.length = 0) : (run c l).1 = c := by
  obtain ⟨_, _, e⟩ := run_ok h
  rw [e, List.length_eq_zero_iff.1 hl]; rfl
theorem recent {c : DCache} {l : List Int} {j : Nat} (h : runErr c l = 0) (hj : j + 1 = l.length) :
    accessErr (run c l).1 (l[j]'(by omega)) = 0 ∧ access (run c l).1 (l[j]'(by omega)) = ((run c l).1, true, -1) ∧ sizeErr (run c l).1 1 = 0 ∧ (resize (run c l).1 1).1.keys = [l[j]'(by omega)] ∧ (resize (run c l).1 1).2.length + 1 = (run c l).1.keys.length := by
  have ho := run_oks h
  have hc := check_ok.2 ho
  obtain ⟨a1, a2, a3⟩ := run_ok h
  have h0 : l ≠ [] := by rintro rfl; simp at hj
  obtain ⟨r, hr⟩ := runGo_last (c := c) (n := 0) h0 (ok_of a1).room.1
  have hl : l.getLast h0 = l[j]'(by omega) := by rw [List.getLast_eq_getElem]; congr 1; omega
  rw [hl, ← a3] at hr
  have hk : okKey (l[j]'(by omega)) = true := (trace_ok.1 a2).2 _ (List.getElem_mem _)
  have e1 : accessErr (run c l).1 (l[j]'(by omega)) = 0 := by unfold accessErr; rw [if_pos hc, if_pos hk]
  obtain ⟨s1, s2⟩ := size3 (c := (run c l).1) (room := 1) hc (by rfl)
  refine ⟨e1, ?_, s2, ?_, ?_⟩
  · rw [access, if_pos e1]; exact touch_first ho hr
  · rw [s1, hr]; rfl
  · rw [s1, hr]; simp
end Go.Sx.Lru

/- The optimal policy and the others: nobody has fewer misses; LRU is not much worse with more room. -/
namespace Go.Sx.Opt
open Belady (Run)
theorem go_n {l : List Int} {room : Int} (h : evErr l room = 0) : 0 ≤ (ev l room).2 ∧ (ev l room).2 ≤ l.length ∧ Belady.Opt room.toNat [] l (ev l room).2.toNat ∧ (1 ≤ room ∧ room ≤ 40) ∧ l.length ≤ 200 := by
  obtain ⟨h1, h2, h3⟩ := ev_ok h
  have hr := Lru.room_ok h2
  have g := GInv.all (l := l) hr.1 l.length (Nat.le_refl _)
  rw [h3]
  exact ⟨g.n0, g.n1, go_opt hr.1, hr, (Lru.trace_ok.1 h1).1⟩
/-- nobody has fewer -/
theorem least {l : List Int} {room : Int} {n : Nat} (h : evErr l room = 0) (hr : Run room.toNat [] l n) : (ev l room).2 ≤ n := by
  obtain ⟨h1, _, h3, _⟩ := go_n h
  have := Belady.belady h3 hr; omega
/-- more room, no more misses -/
theorem more {l : List Int} {a b : Int} (h : evErr l a = 0) (h2 : evErr l b = 0) (hab : a ≤ b) : (ev l b).2 ≤ (ev l a).2 := by
  obtain ⟨h3, _, h5, _⟩ := go_n h
  have hr := (h5.run List.nodup_nil (Nat.zero_le _)).mono (room' := b.toNat) (by omega)
  have := least h2 hr; omega
/-! ### LRU as a run -/
theorem lru_run {l : List Int} : ∀ {c : DCache} {n : Int}, Lru.Ok c → (∀ x ∈ l, Lru.okKey x = true) → ∃ m : Nat, Run c.room.toNat c.keys l m ∧ (Lru.runGo c n l).2 + m = n + l.length := by
  induction l with
  | nil => intro c n _ _; exact ⟨0, .nil _, by simp [Lru.runGo]⟩
  | cons k l ih =>
    intro c n h hk
    have h2 := h.touch (hk k (by simp))
    have hr := h2.room; have hl := h2.len
    have e : (Lru.touch c k).1.room = c.room := rfl
    have hp := h.pos
    have hin : k ∈ (Lru.touch c k).1.keys := by
      show k ∈ Lru.front c.room.toNat c.keys k
      unfold Lru.front
      obtain ⟨r, hr⟩ : ∃ r, c.room.toNat = r + 1 := ⟨c.room.toNat - 1, by omega⟩
      rw [hr, List.take_succ_cons]; simp
    have hsub : ∀ x ∈ (Lru.touch c k).1.keys, x = k ∨ x ∈ c.keys := fun x hx => Lru.mem_front hx
    by_cases hm : k ∈ c.keys
    · obtain ⟨m, h3, h4⟩ := ih (c := (Lru.touch c k).1) (n := n + 1) h2 (fun x hx => hk x (by simp [hx]))
      refine ⟨m, .hit hm h2.once (by rw [e] at hl; omega) hin (fun x hx => (hsub x hx).elim (fun e => e ▸ hm) id) (by rw [e] at h3; exact h3), ?_⟩
      rw [Lru.runGo, show (Lru.touch c k).2.1 = true from decide_eq_true hm]; simp only [if_true, List.length_cons]; omega
    · obtain ⟨m, h3, h4⟩ := ih (c := (Lru.touch c k).1) (n := n) h2 (fun x hx => hk x (by simp [hx]))
      refine ⟨m + 1, .miss hm h2.once (by rw [e] at hl; omega) hin hsub (by rw [e] at h3; exact h3), ?_⟩
      rw [Lru.runGo, show (Lru.touch c k).2.1 = false from decide_eq_false hm]; simp only [Bool.false_eq_true, if_false, List.length_cons]; omega
theorem lru_zero {room : Int} {l : List Int} (h : Lru.runErr ⟨room, []⟩ l = 0) : ∃ m : Nat, Run room.toNat [] l m ∧ (Lru.run ⟨room, []⟩ l).2 + m = l.length := by
  obtain ⟨a1, a2, a3⟩ := Lru.run_ok h
  obtain ⟨m, h3, h4⟩ := lru_run (n := 0) (Lru.ok_of a1) (Lru.trace_ok.1 a2).2
  exact ⟨m, h3, by rw [a3]; omega⟩
theorem beats_lru {room : Int} {l : List Int} (h : evErr l room = 0) (h2 : Lru.runErr ⟨room, []⟩ l = 0) : (ev l room).2 ≤ (l.length : Int) - (Lru.run ⟨room, []⟩ l).2 := by
  obtain ⟨m, h3, h4⟩ := lru_zero h2
  have := least h h3; omega
/-! ### LRU with more room than the optimal policy (Sleator, Tarjan) -/
/-- what LRU has and the other one has not, weighed by how lately it was used -/
def pot (D : List Int) : Int → List Int → Int
  | _, [] => 0
  | w, x :: c => (if x ∈ D then 0 else w) + pot D (w - 1) c
def out (D c : List Int) : Int := ((c.filter fun x => decide (x ∉ D)).length : Int)
theorem out_cons (D : List Int) (x : Int) (c : List Int) : out D (x :: c) = (if x ∈ D then 0 else 1) + out D c := by
  unfold out; rw [List.filter_cons]
  by_cases h : x ∈ D
  · simp [h]
  · simp [h]; omega
theorem pot_nonneg (D : List Int) : ∀ (c : List Int) (w : Int), (c.length : Int) ≤ w → 0 ≤ pot D w c
  | [], w, _ => Int.le_refl _
  | x :: c, w, h => by
    simp only [List.length_cons] at h
    have := pot_nonneg D c (w - 1) (by omega)
    rw [pot]; split <;> omega
theorem pot_less (D : List Int) : ∀ (c : List Int) (w : Int), pot D (w - 1) c = pot D w c - out D c
  | [], w => by simp [pot, out]
  | x :: c, w => by
    rw [pot, pot, pot_less D c (w - 1), out_cons]; split <;> omega
theorem out_nonneg (D c : List Int) : 0 ≤ out D c := by unfold out; omega
/-- the other one gets a key, and loses one at most -/
theorem pot_evict {D D' : List Int} {f k : Int} (h : ∀ x, x ∈ D' ↔ x = k ∨ x ∈ D ∧ x ≠ f) : ∀ (c : List Int) (w : Int), c.Nodup → (c.length : Int) ≤ w → pot D' w c ≤ pot D w c + (if f ∈ c then w else 0)
  | [], w, _, _ => by simp [pot]
  | x :: c, w, hn, hl => by
    simp only [List.length_cons] at hl
    obtain ⟨h1, h2⟩ := List.nodup_cons.1 hn
    have ih := pot_evict h c (w - 1) h2 (by omega)
    rw [pot, pot]
    by_cases e : x = f
    · subst e
      rw [if_neg h1] at ih
      rw [if_pos (by simp : x ∈ x :: c)]
      split <;> split <;> omega
    · have hx : x ∈ D → x ∈ D' := fun hx => (h x).2 (.inr ⟨hx, e⟩)
      have hf : (f ∈ x :: c) ↔ f ∈ c := by rw [List.mem_cons]; exact ⟨fun h => h.resolve_left (fun h => e h.symm), .inr⟩
      by_cases hfc : f ∈ c
      · rw [if_pos (hf.2 hfc)]; rw [if_pos hfc] at ih
        split <;> split <;> first | omega | (rename_i a b; exact absurd (hx b) a)
      · rw [if_neg (fun h => hfc (hf.1 h))]; rw [if_neg hfc] at ih
        split <;> split <;> first | omega | (rename_i a b; exact absurd (hx b) a)
theorem pot_sub {D D' : List Int} (h : ∀ x ∈ D, x ∈ D') : ∀ (c : List Int) (w : Int), (c.length : Int) ≤ w → pot D' w c ≤ pot D w c
  | [], w, _ => Int.le_refl _
  | x :: c, w, hl => by
    simp only [List.length_cons] at hl
    have := pot_sub h c (w - 1) (by omega)
    rw [pot, pot]; split <;> split <;> first | omega | (rename_i a b; exact absurd (h x b) a)
theorem pot_erase {D : List Int} {k : Int} (hk : k ∈ D) : ∀ (c : List Int) (w : Int), k ∈ c → (c.length : Int) ≤ w → pot D (w - 1) (c.erase k) ≤ pot D w c
  | [], w, h, _ => by cases h
  | x :: c, w, h, hl => by
    simp only [List.length_cons] at hl
    by_cases e : x = k
    · subst e; simp [pot, hk]
    · rw [List.erase_cons, if_neg (by simpa using e), pot, pot]
      have hk2 : k ∈ c := by rcases List.mem_cons.1 h with h | h; exact absurd h.symm e; exact h
      have := pot_erase hk c (w - 1) hk2 (by omega)
      split <;> omega
theorem pot_take (D : List Int) : ∀ (c : List Int) (n : Nat) (w : Int), (c.length : Int) ≤ w → pot D w (c.take n) ≤ pot D w c
  | [], n, w, _ => by simp
  | x :: c, 0, w, h => by simp only [List.take_zero]; exact pot_nonneg D (x :: c) w h
  | x :: c, n + 1, w, h => by
    simp only [List.length_cons] at h
    rw [List.take_succ_cons, pot, pot]; have := pot_take D c n (w - 1) (by omega); omega
theorem pot_drop1 (D : List Int) : ∀ (c : List Int) (w : Int), (c.length : Int) = w → pot D (w - 1) (c.take (c.length - 1)) = pot D (w - 1) c
  | [], w, _ => by simp [pot]
  | [x], w, h => by simp at h; subst h; simp [pot]
  | x :: y :: c, w, h => by
    have e : (x :: y :: c).length - 1 = ((y :: c).length - 1) + 1 := by simp
    rw [e, List.take_succ_cons, pot, pot, pot_drop1 D (y :: c) (w - 1) (by simp at h ⊢; omega)]
theorem out_ge {D c : List Int} {k : Int} (hn : c.Nodup) (hD : D.Nodup) (hk : k ∈ D) (hkc : k ∉ c) : (c.length : Int) - (D.length - 1) ≤ out D c := by
  have h1 : (c.filter fun x => decide (x ∈ D)).length + 1 ≤ D.length := by
    have := Belady.nodup_le (l := k :: c.filter fun x => decide (x ∈ D)) (m := D) (List.nodup_cons.2 ⟨fun h => hkc (List.mem_filter.1 h).1, hn.filter _⟩) (fun x hx => by
      rcases List.mem_cons.1 hx with rfl | hx
      · exact hk
      · simpa using (List.mem_filter.1 hx).2)
    simpa using this
  have h2 : (c.filter fun x => decide (x ∈ D)).length + (c.filter fun x => decide (x ∉ D)).length = c.length := by
    clear h1 hn hkc
    induction c with
    | nil => rfl
    | cons x c ih =>
      rw [List.filter_cons, List.filter_cons, List.length_cons]
      by_cases h : x ∈ D
      · simp [h]; simp at ih; omega
      · simp [h]; simp at ih; omega
  unfold out; omega
/-- how many misses LRU has -/
def lmiss (k : Nat) : List Int → List Int → Int
  | _, [] => 0
  | c, x :: t => (if x ∈ c then 0 else 1) + lmiss k (Lru.front k c x) t
theorem lmiss_run {l : List Int} : ∀ {c : DCache} {n : Int}, (Lru.runGo c n l).2 = n + l.length - lmiss c.room.toNat c.keys l := by
  induction l with
  | nil => intro c n; simp [Lru.runGo, lmiss]
  | cons k l ih =>
    intro c n
    rw [Lru.runGo, ih, lmiss]
    have e : (Lru.touch c k).1.keys = Lru.front c.room.toNat c.keys k := rfl
    have e2 : (Lru.touch c k).1.room = c.room := rfl
    rw [e, e2]
    simp only [List.length_cons]
    by_cases hm : k ∈ c.keys
    · rw [show (Lru.touch c k).2.1 = true from decide_eq_true hm, if_pos hm]; simp only [if_true]; omega
    · rw [show (Lru.touch c k).2.1 = false from decide_eq_false hm, if_neg hm]; simp only [Bool.false_eq_true, if_false]; omega
/-- one access of LRU, when the other one has the key -/
theorem lru_step {D c : List Int} {k : Nat} {h d x : Int} (h0 : 1 ≤ k) (hd : d = (k : Int) - h + 1) (hd0 : 0 ≤ d) (hn : c.Nodup) (hl : c.length ≤ k) (hD : D.Nodup) (hDl : (D.length : Int) ≤ h) (hx : x ∈ D) :
    d * (if x ∈ c then 0 else 1) + pot D k (Lru.front k c x) + d * ((k : Int) - (Lru.front k c x).length) ≤ pot D k c + d * ((k : Int) - c.length) := by
  by_cases hm : x ∈ c
  · have hf := Lru.front_hit hm hl
    have h1 := List.length_erase_of_mem hm
    have h2 := List.length_pos_of_mem hm
    have e : (x :: c.erase x).length = c.length := by simp only [List.length_cons]; omega
    rw [hf, if_pos hm, e, pot, if_pos hx]
    have := pot_erase hx c k hm (by omega)
    omega
  · rw [if_neg hm]
    by_cases hf : c.length < k
    · rw [Lru.front_add hm hf, pot, if_pos hx, pot_less]
      have := out_nonneg D c
      simp only [List.length_cons]
      have e : d * ((k : Int) - ((c.length + 1 : Nat) : Int)) = d * ((k : Int) - c.length) - d := by
        rw [show ((k : Int) - ((c.length + 1 : Nat) : Int)) = ((k : Int) - c.length) - 1 by omega, Int.mul_sub, Int.mul_one]
      rw [e]; omega
    · have hk : c.length = k := by omega
      rw [Lru.front_full hm (by omega), pot, if_pos hx]
      have h1 : pot D ((k : Int) - 1) (c.take (k - 1)) = pot D ((k : Int) - 1) c := by
        have := pot_drop1 D c k (by omega); rw [hk] at this; exact this
      rw [h1, pot_less]
      have h2 := out_ge hn hD hx hm
      have e : (x :: c.take (k - 1)).length = c.length := by simp only [List.length_cons, List.length_take]; omega
      rw [e]; omega
theorem compete {k : Nat} {h d : Int} (h0 : 1 ≤ k) (hd : d = (k : Int) - h + 1) (hd0 : 0 ≤ d) (hh : 0 ≤ h) : ∀ {t D : List Int} {n : Nat}, Belady.Opt h.toNat D t n → D.Nodup → (D.length : Int) ≤ h → ∀ c : List Int, c.Nodup → c.length ≤ k → d * lmiss k c t ≤ (k : Int) * n + pot D k c + d * ((k : Int) - c.length) := by
  intro t D n ho
  induction ho with
  | nil D =>
    intro _ _ c _ hl
    have h1 := pot_nonneg D c k (by omega)
    have h2 : 0 ≤ d * ((k : Int) - c.length) := Int.mul_nonneg hd0 (by omega)
    simp only [lmiss]; omega
  | @hit D D' x t n a b e _ ih =>
    intro hD hDl c hn hl
    have hDl' : (D'.length : Int) ≤ h := by rw [Belady.len_eq hD b e]; exact hDl
    have hfn := Lru.front_nodup (room := k) x hn
    have hfl := Lru.front_len k c x
    have h1 := ih b hDl' _ hfn hfl
    have h2 := lru_step (D := D') h0 hd hd0 hn hl b hDl' ((e x).2 a)
    have h3 := pot_sub (D := D) (D' := D') (fun y hy => (e y).2 hy) c k (by omega)
    rw [lmiss, Int.mul_add]; omega
  | @add D D' x t n a g b e _ ih =>
    intro hD hDl c hn hl
    have hDl' : (D'.length : Int) ≤ h := by have := Belady.len_add hD b a e; omega
    have hfn := Lru.front_nodup (room := k) x hn
    have hfl := Lru.front_len k c x
    have h1 := ih b hDl' _ hfn hfl
    have h2 := lru_step (D := D') h0 hd hd0 hn hl b hDl' ((e x).2 (.inl rfl))
    have h3 := pot_sub (D := D) (D' := D') (fun y hy => (e y).2 (.inr hy)) c k (by omega)
    have e2 : (k : Int) * ((n + 1 : Nat) : Int) = (k : Int) * n + k := by rw [show ((n + 1 : Nat) : Int) = (n : Int) + 1 by omega, Int.mul_add, Int.mul_one]
    rw [lmiss, Int.mul_add, e2]; omega
  | @evict D D' x f t n a g fa _ b e _ ih =>
    intro hD hDl c hn hl
    have hDl' : (D'.length : Int) ≤ h := by rw [Belady.len_evict hD b a fa e]; exact hDl
    have hfn := Lru.front_nodup (room := k) x hn
    have hfl := Lru.front_len k c x
    have h1 := ih b hDl' _ hfn hfl
    have h2 := lru_step (D := D') h0 hd hd0 hn hl b hDl' ((e x).2 (.inl rfl))
    have h3 := pot_evict (D := D) (D' := D') (f := f) (k := x) e c k hn (by omega)
    have h4 : (if f ∈ c then (k : Int) else 0) ≤ k := by split <;> omega
    have e2 : (k : Int) * ((n + 1 : Nat) : Int) = (k : Int) * n + k := by rw [show ((n + 1 : Nat) : Int) = (n : Int) + 1 by omega, Int.mul_add, Int.mul_one]
    rw [lmiss, Int.mul_add, e2]; omega
theorem bound_ok {misses room least : Int} (h : boundErr misses room least = 0) : (0 ≤ misses ∧ misses ≤ 200) ∧ (1 ≤ room ∧ room ≤ 40) ∧ (1 ≤ least ∧ least ≤ room) ∧ bound misses room least = (room * misses).tdiv (room - least + 1) + room := by
  unfold boundErr at h
  split at h
  · cases h
  · rename_i h1
    split at h
    · cases h
    · rename_i h2
      have h3 : Lru.okRoom room = true := by cases e : Lru.okRoom room; exact absurd (.inl (.inr e)) h1; rfl
      have h4 : Lru.okRoom least = true := by cases e : Lru.okRoom least; exact absurd (.inr e) h1; rfl
      have h5 := Lru.room_ok h3; have h6 := Lru.room_ok h4
      have e : boundErr misses room least = 0 := by unfold boundErr; rw [if_neg h1, if_neg h2]
      exact ⟨by omega, h5, ⟨h6.1, by omega⟩, by unfold bound; rw [if_pos e]⟩
theorem room_law {l : List Int} {room least : Int} (h : evErr l least = 0) (h2 : evErr l room = 0) (h3 : Lru.runErr ⟨room, []⟩ l = 0) (h4 : boundErr (ev l least).2 room least = 0) :
    (l.length : Int) - (Lru.run ⟨room, []⟩ l).2 ≤ bound (ev l least).2 room least ∧ (ev l room).2 ≤ (ev l least).2 ∧ 0 ≤ (Lru.run ⟨room, []⟩ l).2 ∧ (Lru.run ⟨room, []⟩ l).2 ≤ l.length ∧ l.length ≤ 200 := by
  obtain ⟨b1, b2, b3, b4⟩ := bound_ok h4
  obtain ⟨g1, g2, g3, g4, g5⟩ := go_n h
  obtain ⟨a1, a2, a3⟩ := Lru.run_ok h3
  obtain ⟨m, _, hm⟩ := lru_zero h3
  have hc := compete (k := room.toNat) (h := least) (d := room - least + 1) (by omega) (by omega) (by omega) (by omega) g3 List.nodup_nil (by simp; omega) [] List.nodup_nil (Nat.zero_le _)
  have hlm : (Lru.run ⟨room, []⟩ l).2 = (l.length : Int) - lmiss room.toNat [] l := by
    rw [a3]; have := lmiss_run (l := l) (c := ⟨room, []⟩) (n := 0); rw [this]; simp
  have h0 := (Lru.run_n l ⟨room, []⟩)
  rw [← a3] at h0
  refine ⟨?_, more h h2 b3.2, h0.1, h0.2, g5⟩
  rw [b4, hlm]
  have e1 : ((room.toNat : Nat) : Int) = room := by omega
  have e2 : (((ev l least).2.toNat : Nat) : Int) = (ev l least).2 := by omega
  simp only [e1, e2, pot, List.length_nil] at hc
  have hd : 0 < room - least + 1 := by omega
  have h8 : (lmiss room.toNat [] l - room) * (room - least + 1) ≤ room * (ev l least).2 := by
    rw [Int.sub_mul, Int.mul_comm (lmiss room.toNat [] l), Int.mul_comm room (room - least + 1)]
    have : (room - least + 1) * (room - ((0 : Nat) : Int)) = (room - least + 1) * room := by rw [show room - ((0 : Nat) : Int) = room by omega]
    rw [this] at hc; omega
  have h9 := Int.le_ediv_of_mul_le hd h8
  rw [Int.tdiv_eq_ediv_of_nonneg (Int.mul_nonneg (by omega) g1)]
  omega
end Go.Sx.Opt

/- Least frequently used: the plain functions. -/
namespace Go.Sx
structure DUse where
  key : Int
  count : Int
deriving DecidableEq
instance : Inhabited DUse := ⟨⟨0, 0⟩⟩
def tUse : Ty DUse := ⟨2, fun c => [.int .i64 c.key, .int .i64 c.count], fun _ => rfl⟩
structure DUses where
  room : Int
  list : List DUse
deriving DecidableEq
namespace Lfu
def keysOf (l : List DUse) : List Int := l.map (·.key)
def okCount (x : DUse) : Bool := decide (1 ≤ x.count) && decide (x.count ≤ 1099511627776)
def check (u : DUses) : Int :=
  if Lru.okRoom u.room = false then 3 else if u.room < (u.list.length : Int) then 2 else if Lru.keys (keysOf u.list) ≠ 0 then Lru.keys (keysOf u.list)
  else if u.list.any (fun x => !okCount x) then 3 else 0
/-- What may be touched. -/
structure Ok (u : DUses) : Prop where
  room : 1 ≤ u.room ∧ u.room ≤ 40
  len : (u.list.length : Int) ≤ u.room
  key : ∀ x ∈ u.list, Lru.okKey x.key = true
  once : (keysOf u.list).Nodup
  count : ∀ x ∈ u.list, 1 ≤ x.count ∧ x.count ≤ 1099511627776
theorem check_ok {u : DUses} : check u = 0 ↔ Ok u := by
  unfold check
  constructor
  · intro e
    repeat' split at e
    all_goals first | (exact absurd e (by decide)) | skip
    · contradiction
    · rename_i h1 h2 h3 h4
      have h5 := Lru.keys_ok.1 (Decidable.not_not.1 h3)
      simp [Lru.okRoom] at h1
      refine ⟨by omega, by omega, fun x hx => h5.1 _ (List.mem_map_of_mem hx), h5.2, fun x hx => ?_⟩
      have := List.any_eq_false.1 (Bool.not_eq_true _ ▸ h4) x hx
      simpa [okCount] using this
  · rintro ⟨a, b, c, d, e⟩
    have h5 : Lru.keys (keysOf u.list) = 0 := Lru.keys_ok.2 ⟨fun k hk => by obtain ⟨x, hx, rfl⟩ := List.mem_map.1 hk; exact c x hx, d⟩
    rw [if_neg (by simp [Lru.okRoom]; omega), if_neg (by omega), if_neg (by simp [h5]), if_neg]
    rw [Bool.not_eq_true, List.any_eq_false]
    intro x hx
    have := e x hx
    simp [okCount]; omega
theorem ok_of {u : DUses} (h : check u = 0) : Ok u := check_ok.1 h
def leastTo (l : List DUse) : Nat → Nat
  | 0 => 0
  | k + 1 => if (l.getD k default).count ≤ (l.getD (leastTo l k) default).count then k else leastTo l k
def least (l : List DUse) : Nat := leastTo l l.length
abbrev at_ (l : List DUse) (key : Int) : Int := idxF (fun x : DUse => (x.key == key)) l
def cap (n : Int) : Int := min (n + 1) 1099511627776
def touch (u : DUses) (key : Int) : DUses × Bool × Int :=
  if 0 ≤ at_ u.list key then (⟨u.room, ⟨(u.list.getD (at_ u.list key).toNat default).key, cap (u.list.getD (at_ u.list key).toNat default).count⟩ :: u.list.eraseIdx (at_ u.list key).toNat⟩, true, -1)
  else if (u.list.length : Int) = u.room then (⟨u.room, ⟨key, 1⟩ :: u.list.eraseIdx (least u.list)⟩, false, (u.list.getD (least u.list) default).key)
  else (⟨u.room, ⟨key, 1⟩ :: u.list⟩, false, -1)
def zero : DUses := ⟨0, []⟩
def accessErr (u : DUses) (key : Int) : Int := if check u = 0 then (if Lru.okKey key then 0 else 3) else check u
def access (u : DUses) (key : Int) : DUses × Bool × Int := if accessErr u key = 0 then touch u key else (zero, false, 0)
def runGo (u : DUses) (n : Int) : List Int → DUses × Int
  | [] => (u, n)
  | k :: l => runGo (touch u k).1 (if (touch u k).2.1 then n + 1 else n) l
def runErr (u : DUses) (l : List Int) : Int := if check u = 0 then Lru.trace l else check u
def run (u : DUses) (l : List Int) : DUses × Int := if runErr u l = 0 then runGo u 0 l else (zero, 0)
def old (x : DUse) : DUse := ⟨x.key, max 1 (x.count.tdiv 2)⟩
def age (u : DUses) : DUses := if check u = 0 then ⟨u.room, u.list.map old⟩ else zero
def victimErr (u : DUses) : Int := if check u = 0 then (if u.list.length = 0 then 5 else 0) else check u
def victim (u : DUses) : Int := if victimErr u = 0 then (u.list.getD (least u.list) default).key else 0
end Lfu
end Go.Sx

/- Least frequently used: what a touch and a run do. -/
namespace Go.Sx.Lfu
open Lru (okKey trace_ok)
theorem at_lt (l : List DUse) (key : Int) : at_ l key < l.length ∧ -1 ≤ at_ l key := idxF_lt _ _
theorem at_pos {l : List DUse} {key : Int} (h : 0 ≤ at_ l key) : ∃ h' : (at_ l key).toNat < l.length, (l[(at_ l key).toNat]).key = key := by
  rcases idxF_cases (fun x : DUse => (x.key == key)) l with ⟨k, hk, e, h1, _⟩ | ⟨e, _⟩
  · have e2 : (at_ l key).toNat = k := by unfold at_; rw [e]; rfl
    simp only [e2]; exact ⟨hk, by simpa using h1⟩
  · unfold at_ at h; omega
theorem at_neg {l : List DUse} {key : Int} : at_ l key < 0 ↔ ∀ x ∈ l, x.key ≠ key := by
  constructor
  · intro h x hx hk
    rcases idxF_cases (fun x : DUse => (x.key == key)) l with ⟨k, _, e, _⟩ | ⟨_, h2⟩
    · unfold at_ at h; omega
    · have := h2 x hx; simp [hk] at this
  · intro h
    have e := idxF_none (f := fun f : DUse => (f.key == key)) (l := l) (fun j hj => by simpa using h _ (List.getElem_mem hj))
    have e2 : at_ l key = -1 := e.symm
    omega
theorem at_found {l : List DUse} {key : Int} {i : Nat} (hl : i < l.length) (hk : l[i].key = key) (hn : ∀ j (h : j < l.length), j < i → l[j].key ≠ key) : at_ l key = i :=
  (idxF_found (f := fun f : DUse => (f.key == key)) hl (by simpa using hk) (fun j h h2 => by simpa using hn j h h2)).symm
theorem leastTo_lt {l : List DUse} : ∀ k, k ≤ l.length → 0 < l.length → leastTo l k < l.length
  | 0, _, h => h
  | k + 1, hk, h => by
    rw [leastTo]; split
    · omega
    · exact leastTo_lt k (by omega) h
theorem least_lt {l : List DUse} (h : 0 < l.length) : least l < l.length := leastTo_lt _ (Nat.le_refl _) h
/-- the last of the least among the first k -/
theorem leastTo_min {l : List DUse} : ∀ k, k ≤ l.length → ∀ j (hj : j < l.length), j < k → (l.getD (leastTo l k) default).count ≤ l[j].count ∧ (j ≤ leastTo l k ∨ (l.getD (leastTo l k) default).count < l[j].count)
  | 0, _, _, _, h => absurd h (by omega)
  | k + 1, hk, j, hj, hjk => by
    rw [leastTo]
    have ih := leastTo_min (l := l) k (by omega) j hj
    have e : (l.getD k default) = l[k] := by simp [List.getD, show k < l.length by omega]
    split
    · rename_i h
      rw [e] at h ⊢
      by_cases hjk2 : j = k
      · subst hjk2; exact ⟨Int.le_refl _, .inl (Nat.le_refl _)⟩
      · have := ih (by omega); exact ⟨by omega, .inl (by omega)⟩
    · rename_i h
      by_cases hjk2 : j = k
      · subst hjk2
        rw [e] at h
        exact ⟨by omega, .inr (by omega)⟩
      · exact ih (by omega)
theorem least_get {l : List DUse} (h0 : 0 < l.length) : (l.getD (leastTo l l.length) default) = l[least l]'(least_lt h0) := by simp [least, List.getD, show leastTo l l.length < l.length from least_lt h0]
theorem least_min {l : List DUse} (h0 : 0 < l.length) : ∀ t ∈ l, (l[least l]'(least_lt h0)).count ≤ t.count := by
  intro t ht
  obtain ⟨j, hj, rfl⟩ := List.getElem_of_mem ht
  have := (leastTo_min l.length (Nat.le_refl _) j hj hj).1
  rw [least_get h0] at this; exact this
theorem least_last {l : List DUse} (h0 : 0 < l.length) {i : Nat} (hi : i < l.length) (h : ∀ t ∈ l, l[i].count ≤ t.count) (h2 : ∀ j (hj : j < l.length), i < j → ∃ t ∈ l, t.count < l[j].count) : i = least l := by
  have hl := least_lt h0
  rcases Nat.lt_trichotomy (least l) i with hlt | he | hgt
  · have h3 := leastTo_min l.length (Nat.le_refl _) i hi hi
    rw [least_get h0] at h3
    have := h _ (List.getElem_mem hl)
    unfold least at hlt; omega
  · exact he.symm
  · obtain ⟨t, ht, hw⟩ := h2 _ hl hgt
    have := least_min h0 t ht; omega
structure BInv (l : List DUse) (best : Int) (k : Nat) : Prop where
  le : k ≤ l.length
  eq : best = (leastTo l k : Int)
theorem BInv.start (l : List DUse) : BInv l 0 0 := ⟨Nat.zero_le _, rfl⟩
theorem BInv.bd {l : List DUse} {best : Int} {k : Nat} (h : BInv l best k) (hl : 0 < l.length) : 0 ≤ best ∧ best < l.length := by
  have := leastTo_lt (l := l) k h.le hl; rw [h.eq]; omega
theorem BInv.less {l : List DUse} {best : Int} {k : Nat} (h : BInv l best k) (hk : k < l.length) (hb : best.toNat < l.length) (hw : l[k].count ≤ l[best.toNat].count) : BInv l (k : Int) (k + 1) := by
  obtain ⟨h1, rfl⟩ := h
  simp only [Int.toNat_natCast] at hw hb
  exact ⟨hk, by rw [leastTo]; simp [List.getD, hk, hb, hw]⟩
theorem BInv.not {l : List DUse} {best : Int} {k : Nat} (h : BInv l best k) (hk : k < l.length) (hb : best.toNat < l.length) (hw : l[best.toNat].count < l[k].count) : BInv l best (k + 1) := by
  obtain ⟨h1, rfl⟩ := h
  simp only [Int.toNat_natCast] at hw hb
  exact ⟨hk, by rw [leastTo]; simp [List.getD, hk, hb, Int.not_le.2 hw]⟩
theorem BInv.done {l : List DUse} {best : Int} {k : Nat} (h : BInv l best k) (hk : (l.length : Int) ≤ k) : best = (least l : Int) := by
  have := h.le
  rw [h.eq, least, show k = l.length by omega]
/-! ### a touch -/
theorem touch_hit {u : DUses} {key : Int} (h : 0 ≤ at_ u.list key) (hl : (at_ u.list key).toNat < u.list.length) : touch u key = (⟨u.room, ⟨(u.list[(at_ u.list key).toNat]).key, cap (u.list[(at_ u.list key).toNat]).count⟩ :: u.list.eraseIdx (at_ u.list key).toNat⟩, true, -1) := by
  unfold touch; rw [if_pos h]; simp [List.getD, hl]
theorem touch_full {u : DUses} {key : Int} (h : at_ u.list key < 0) (hf : (u.list.length : Int) = u.room) (hl : least u.list < u.list.length) : touch u key = (⟨u.room, ⟨key, 1⟩ :: u.list.eraseIdx (least u.list)⟩, false, (u.list[least u.list]).key) := by
  unfold touch; rw [if_neg (by omega), if_pos hf]; simp [List.getD, hl]
theorem touch_add {u : DUses} {key : Int} (h : at_ u.list key < 0) (hf : (u.list.length : Int) ≠ u.room) : touch u key = (⟨u.room, ⟨key, 1⟩ :: u.list⟩, false, -1) := by
  unfold touch; rw [if_neg (by omega), if_neg hf]
theorem keys_erase (l : List DUse) (i : Nat) : keysOf (l.eraseIdx i) = (keysOf l).eraseIdx i := by
  unfold keysOf; induction l generalizing i with
  | nil => rfl
  | cons a l ih => cases i with
    | zero => rfl
    | succ i => simp [ih]
theorem not_mem_erase {l : List DUse} {i : Nat} (hn : (keysOf l).Nodup) (hi : i < l.length) : ∀ x ∈ l.eraseIdx i, x.key ≠ l[i].key := by
  intro x hx e
  obtain ⟨j, hj, hne, rfl⟩ := List.mem_eraseIdx_iff_getElem.1 hx
  have h1 := List.pairwise_iff_getElem.1 hn
  have hj' : j < (keysOf l).length := by simpa [keysOf] using hj
  have hi' : i < (keysOf l).length := by simpa [keysOf] using hi
  rcases Nat.lt_or_gt_of_ne hne with h | h
  · exact h1 j i hj' hi' h (by simpa [keysOf] using e)
  · exact h1 i j hi' hj' h (by simpa [keysOf] using e.symm)
theorem cap_bd {n : Int} (h : 0 ≤ n) : 1 ≤ cap n ∧ cap n ≤ 1099511627776 := by unfold cap; omega
theorem Ok.touch {u : DUses} (h : Ok u) {key : Int} (hk : okKey key = true) : Ok (touch u key).1 := by
  obtain ⟨a, b, c, d, e⟩ := h
  by_cases hh : at_ u.list key < 0
  · have hn := at_neg.1 hh
    by_cases hf : (u.list.length : Int) = u.room
    · have hl := least_lt (l := u.list) (by omega)
      rw [touch_full hh hf hl]
      have he := List.length_eraseIdx_of_lt hl
      refine ⟨a, by simp only [List.length_cons]; omega, ?_, ?_, ?_⟩
      · intro x hx; rcases List.mem_cons.1 hx with rfl | hx
        · exact hk
        · exact c x (List.mem_of_mem_eraseIdx hx)
      · refine List.nodup_cons.2 ⟨fun hm => ?_, ?_⟩
        · obtain ⟨x, hx, hxe⟩ := List.mem_map.1 hm
          exact hn x (List.mem_of_mem_eraseIdx hx) hxe
        · exact d.sublist ((List.eraseIdx_sublist _ _).map _)
      · intro x hx; rcases List.mem_cons.1 hx with rfl | hx
        · exact ⟨Int.le_refl 1, show (1 : Int) ≤ 1099511627776 by decide⟩
        · exact e x (List.mem_of_mem_eraseIdx hx)
    · rw [touch_add hh hf]
      refine ⟨a, by simp only [List.length_cons]; omega, ?_, ?_, ?_⟩
      · intro x hx; rcases List.mem_cons.1 hx with rfl | hx
        · exact hk
        · exact c x hx
      · refine List.nodup_cons.2 ⟨fun hm => ?_, d⟩
        obtain ⟨x, hx, hxe⟩ := List.mem_map.1 hm
        exact hn x hx hxe
      · intro x hx; rcases List.mem_cons.1 hx with rfl | hx
        · exact ⟨Int.le_refl 1, show (1 : Int) ≤ 1099511627776 by decide⟩
        · exact e x hx
  · obtain ⟨hl, hkey⟩ := at_pos (l := u.list) (key := key) (by omega)
    rw [touch_hit (by omega) hl]
    have hm := List.getElem_mem hl
    have he := List.length_eraseIdx_of_lt hl
    refine ⟨a, by simp only [List.length_cons]; omega, ?_, ?_, ?_⟩
    · intro x hx; rcases List.mem_cons.1 hx with rfl | hx
      · have h9 := c _ hm; exact h9
      · exact c x (List.mem_of_mem_eraseIdx hx)
    · refine List.nodup_cons.2 ⟨fun hm2 => ?_, d.sublist ((List.eraseIdx_sublist _ _).map _)⟩
      obtain ⟨x, hx, hxe⟩ := List.mem_map.1 hm2
      exact not_mem_erase d hl x hx hxe
    · intro x hx; rcases List.mem_cons.1 hx with rfl | hx
      · exact cap_bd (by have := e _ hm; omega)
      · exact e x (List.mem_of_mem_eraseIdx hx)
/-! ### access and run -/
theorem acc_cases (c : DUses) (key : Int) : (check c ≠ 0 ∧ access c key = (zero, false, 0) ∧ accessErr c key = check c) ∨ (check c = 0 ∧ Lru.okKey key = false ∧ access c key = (zero, false, 0) ∧ accessErr c key = 3) ∨ (check c = 0 ∧ Lru.okKey key = true ∧ access c key = touch c key ∧ accessErr c key = 0) := by
  by_cases hc : check c = 0
  · cases hr : Lru.okKey key
    · have e : accessErr c key = 3 := by unfold accessErr; rw [if_pos hc, if_neg (by simp [hr])]
      exact .inr (.inl ⟨hc, rfl, by unfold access; rw [e]; rfl, e⟩)
    · have e : accessErr c key = 0 := by unfold accessErr; rw [if_pos hc, if_pos hr]
      exact .inr (.inr ⟨hc, rfl, by unfold access; rw [if_pos e], e⟩)
  · have e : accessErr c key = check c := by unfold accessErr; rw [if_neg hc]
    exact .inl ⟨hc, by unfold access; rw [e, if_neg hc], e⟩
theorem acc_bad {c : DUses} {key : Int} (e : accessErr c key ≠ 0) : access c key = (zero, false, 0) := if_neg e
theorem acc_ok {c : DUses} {key : Int} (e : accessErr c key = 0) : check c = 0 ∧ Lru.okKey key = true ∧ access c key = touch c key := by
  rcases acc_cases c key with ⟨a, b, d⟩ | ⟨a, a2, b, d⟩ | ⟨a, a2, b, d⟩
  · exact absurd (d ▸ e) a
  · rw [d] at e; cases e
  · exact ⟨a, a2, b⟩
theorem run_cases (c : DUses) (l : List Int) : (check c ≠ 0 ∧ run c l = (zero, 0) ∧ runErr c l = check c) ∨ (check c = 0 ∧ Lru.trace l ≠ 0 ∧ run c l = (zero, 0) ∧ runErr c l = Lru.trace l) ∨ (check c = 0 ∧ Lru.trace l = 0 ∧ run c l = runGo c 0 l ∧ runErr c l = 0) := by
  by_cases h : check c = 0
  · have e : runErr c l = Lru.trace l := by unfold runErr; rw [if_pos h]
    by_cases h2 : Lru.trace l = 0
    · exact .inr (.inr ⟨h, h2, by unfold run; rw [if_pos (e.trans h2)], e.trans h2⟩)
    · exact .inr (.inl ⟨h, h2, by unfold run; rw [if_neg (by rw [e]; exact h2)], e⟩)
  · have e : runErr c l = check c := by unfold runErr; rw [if_neg h]
    exact .inl ⟨h, by unfold run; rw [if_neg (by rw [e]; exact h)], e⟩
theorem run_bad {c : DUses} {l : List Int} (e : runErr c l ≠ 0) : run c l = (zero, 0) := if_neg e
theorem run_ok {c : DUses} {l : List Int} (e : runErr c l = 0) : check c = 0 ∧ Lru.trace l = 0 ∧ run c l = runGo c 0 l := by
  rcases run_cases c l with ⟨a, b, d⟩ | ⟨a, a2, b, d⟩ | ⟨a, a2, b, d⟩
  · exact absurd (d ▸ e) a
  · exact absurd (d ▸ e) a2
  · exact ⟨a, a2, b⟩
structure RInv (c cc : DUses) (l : List Int) (n : Int) (k : Nat) : Prop where
  ok : Ok cc
  key : ∀ x ∈ l, Lru.okKey x = true
  n0 : 0 ≤ n
  n1 : n ≤ (k : Int)
  le : k ≤ l.length
  go : runGo cc n (l.drop k) = runGo c 0 l
theorem RInv.start {c : DUses} {l : List Int} (h : Ok c) (hk : ∀ x ∈ l, Lru.okKey x = true) : RInv c c l 0 0 := ⟨h, hk, Int.le_refl _, Int.le_refl _, Nat.zero_le _, rfl⟩
theorem RInv.start' {c : DUses} {l : List Int} (h : check c = 0) (hk : Lru.trace l = 0) : RInv c c l 0 0 := RInv.start (ok_of h) (Lru.trace_ok.1 hk).2
theorem RInv.hit {c cc : DUses} {l : List Int} {n : Int} {k : Nat} (h : RInv c cc l n k) (hk : k < l.length) (ht : (Lfu.touch cc l[k]).2.1 = true) : RInv c (Lfu.touch cc l[k]).1 l (n + 1) (k + 1) := by
  obtain ⟨g1, g0, g2, g3, g4, g5⟩ := h
  rw [List.drop_eq_getElem_cons hk, runGo, if_pos ht] at g5
  exact ⟨g1.touch (g0 _ (List.getElem_mem hk)), g0, by omega, by omega, hk, g5⟩
theorem RInv.miss {c cc : DUses} {l : List Int} {n : Int} {k : Nat} (h : RInv c cc l n k) (hk : k < l.length) (ht : (Lfu.touch cc l[k]).2.1 = false) : RInv c (Lfu.touch cc l[k]).1 l n (k + 1) := by
  obtain ⟨g1, g0, g2, g3, g4, g5⟩ := h
  rw [List.drop_eq_getElem_cons hk, runGo, if_neg (by simp [ht])] at g5
  exact ⟨g1.touch (g0 _ (List.getElem_mem hk)), g0, by omega, by omega, hk, g5⟩
theorem RInv.done {c cc : DUses} {l : List Int} {n : Int} {k : Nat} (h : RInv c cc l n k) (hk : (l.length : Int) ≤ k) : runGo c 0 l = (cc, n) := by
  rw [← h.go, List.drop_of_length_le (by omega)]; rfl
theorem Ok.runGo {l : List Int} : ∀ {c : DUses} {n : Int}, Ok c → (∀ x ∈ l, Lru.okKey x = true) → Ok (runGo c n l).1 := by
  induction l with
  | nil => intro c n h _; exact h
  | cons k l ih => intro c n h hk; exact ih (h.touch (hk k (by simp))) (fun x hx => hk x (by simp [hx]))
theorem runGo_append {l m : List Int} : ∀ {c : DUses} {n : Int}, Lfu.runGo c n (l ++ m) = Lfu.runGo (Lfu.runGo c n l).1 (Lfu.runGo c n l).2 m := by
  induction l with
  | nil => intro c n; rfl
  | cons k l ih => intro c n; rw [List.cons_append, Lfu.runGo, ih]; rfl
theorem runGo_add {l : List Int} : ∀ {c : DUses} {n : Int}, Lfu.runGo c n l = ((Lfu.runGo c 0 l).1, n + (Lfu.runGo c 0 l).2) := by
  induction l with
  | nil => intro c n; simp [Lfu.runGo]
  | cons k l ih =>
    intro c n
    rw [Lfu.runGo, ih, Lfu.runGo, ih (n := if (Lfu.touch c k).2.1 = true then 0 + 1 else 0)]
    split <;> simp <;> omega
theorem touch_room (c : DUses) (k : Int) : (Lfu.touch c k).1.room = c.room := by unfold Lfu.touch; split; rfl; split <;> rfl
theorem runGo_room {l : List Int} : ∀ {c : DUses} {n : Int}, (Lfu.runGo c n l).1.room = c.room := by
  induction l with
  | nil => intro c n; rfl
  | cons k l ih => intro c n; rw [Lfu.runGo, ih]; exact touch_room c k
end Go.Sx.Lfu

/- LFU: how the checks read. -/
namespace Go.Sx.Lfu
theorem chk1 {u : DUses} (h : Lru.okRoom u.room = false) : 3 = check u := by rw [check, if_pos h]
theorem chk2 {u : DUses} (h : Lru.okRoom u.room = true) (h2 : u.room < (u.list.length : Int)) : 2 = check u := by rw [check, if_neg (by simp [h]), if_pos h2]
theorem chk3 {u : DUses} {ks : List Int} (hk : ks = keysOf u.list) (h : Lru.okRoom u.room = true) (h2 : (u.list.length : Int) ≤ u.room) (h3 : Lru.keys ks ≠ 0) : Lru.keys ks = check u := by
  rw [check, if_neg (by simp [h]), if_neg (by omega), ← hk, if_pos h3]
theorem chk4 {u : DUses} {ks : List Int} (hk : ks = keysOf u.list) (h : Lru.okRoom u.room = true) (h2 : (u.list.length : Int) ≤ u.room) (h3 : Lru.keys ks = 0) (h4 : u.list.any (fun x => !okCount x) = true) : 3 = check u := by
  rw [check, if_neg (by simp [h]), if_neg (by omega), ← hk, if_neg (by simp [h3]), if_pos h4]
theorem chk5 {u : DUses} {ks : List Int} (hk : ks = keysOf u.list) (h : Lru.okRoom u.room = true) (h2 : (u.list.length : Int) ≤ u.room) (h3 : Lru.keys ks = 0) (h4 : u.list.any (fun x => !okCount x) = false) : 0 = check u := by
  rw [check, if_neg (by simp [h]), if_neg (by omega), ← hk, if_neg (by simp [h3]), if_neg (by simp [h4])]
theorem keys_step {l : List DUse} {k : Nat} (h : k < l.length) : keysOf (l.take k) ++ [l[k].key] = keysOf (l.take (k + 1)) := by
  rw [List.take_succ_eq_append_getElem h, keysOf, keysOf, List.map_append]; rfl
theorem keys_len {l : List DUse} {k : Nat} (h : k ≤ l.length) : (keysOf (l.take k)).length = k := by simp [keysOf]; omega
theorem keys_all {l : List DUse} {k : Nat} (h : l.length ≤ k) : keysOf (l.take k) = keysOf l := by rw [List.take_of_length_le h]
theorem count_at {u : DUses} (h : Ok u) {i : Nat} (hi : i < u.list.length) : 1 ≤ (u.list.getD i default).count ∧ (u.list.getD i default).count ≤ 1099511627776 := by
  have e : u.list.getD i default = u.list[i] := by simp [List.getD, hi]
  rw [e]; exact h.count _ (List.getElem_mem hi)
theorem cut_take {l : List DUse} {i : Int} (h : 0 ≤ i) : l.take i.toNat ++ l.drop (i + 1).toNat = l.eraseIdx i.toNat := by
  rw [List.eraseIdx_eq_take_drop_succ, show (i + 1).toNat = i.toNat + 1 by omega]
theorem t_hit {u : DUses} {key : Int} (h : 0 ≤ at_ u.list key) : touch u key = (⟨u.room, ⟨(u.list.getD (at_ u.list key).toNat default).key, min ((u.list.getD (at_ u.list key).toNat default).count + 1) 1099511627776⟩ :: (u.list.take (at_ u.list key).toNat ++ u.list.drop (at_ u.list key + 1).toNat)⟩, true, -1) := by
  rw [cut_take h]; unfold touch; rw [if_pos h]; rfl
theorem t_full {u : DUses} {key : Int} (h : at_ u.list key < 0) (hf : (u.list.length : Int) = u.room) : touch u key = (⟨u.room, ⟨key, min (0 + 1) 1099511627776⟩ :: (u.list.take ((least u.list : Int)).toNat ++ u.list.drop ((least u.list : Int) + 1).toNat)⟩, false, (u.list.getD ((least u.list : Int)).toNat default).key) := by
  rw [cut_take (by omega)]; unfold touch; rw [if_neg (by omega), if_pos hf]; rfl
theorem t_add {u : DUses} {key : Int} (h : at_ u.list key < 0) (hf : (u.list.length : Int) ≠ u.room) : touch u key = (⟨u.room, ⟨key, min (0 + 1) 1099511627776⟩ :: u.list⟩, false, -1) := by
  unfold touch; rw [if_neg (by omega), if_neg hf]; rfl
theorem ins0 (l : List DUse) (k : DUse) : l.take (0 : Int).toNat ++ [k] ++ l.drop (0 : Int).toNat = k :: l := rfl
theorem acc1 {c : DUses} {key : Int} (e : check c ≠ 0) : access c key = (zero, false, 0) ∧ accessErr c key = check c := by
  rcases acc_cases c key with ⟨_, b⟩ | ⟨a, _⟩ | ⟨a, _⟩
  · exact b
  · exact absurd a e
  · exact absurd a e
theorem acc2 {c : DUses} {key : Int} (e : check c = 0 ∧ Lru.okKey key = false) : access c key = (zero, false, 0) ∧ accessErr c key = 3 := by
  rcases acc_cases c key with ⟨a, _⟩ | ⟨_, _, b⟩ | ⟨_, b, _⟩
  · exact absurd e.1 a
  · exact b
  · rw [e.2] at b; cases b
theorem acc3 {c : DUses} {key : Int} (e2 : ¬ check c = 0 ∨ Lru.okKey key = true) (e : check c = 0) : access c key = touch c key ∧ accessErr c key = 0 := by
  rcases acc_cases c key with ⟨a, _⟩ | ⟨_, b, _⟩ | ⟨_, _, b⟩
  · exact absurd e a
  · rcases e2 with e2 | e2
    · exact absurd e e2
    · rw [e2] at b; cases b
  · exact b
theorem run1 {c : DUses} {l : List Int} (e : check c ≠ 0) : run c l = (zero, 0) ∧ runErr c l = check c := by
  rcases run_cases c l with ⟨_, b⟩ | ⟨a, _⟩ | ⟨a, _⟩
  · exact b
  · exact absurd a e
  · exact absurd a e
theorem run2 {c : DUses} {l : List Int} (e : check c = 0) (e2 : Lru.trace l ≠ 0) : run c l = (zero, 0) ∧ runErr c l = Lru.trace l := by
  rcases run_cases c l with ⟨a, _⟩ | ⟨_, _, b⟩ | ⟨_, a, _⟩
  · exact absurd e a
  · exact b
  · exact absurd a e2
theorem run3 {c : DUses} {l : List Int} (e : check c = 0) (e2 : Lru.trace l = 0) : run c l = runGo c 0 l ∧ runErr c l = 0 := by
  rcases run_cases c l with ⟨a, _⟩ | ⟨_, a, _⟩ | ⟨_, _, b⟩
  · exact absurd e a
  · exact absurd e2 a
  · exact b
theorem vic1 {u : DUses} (e : check u ≠ 0) : 0 = victim u ∧ check u = victimErr u := by
  have e1 : victimErr u = check u := by unfold victimErr; rw [if_neg e]
  exact ⟨by unfold victim; rw [if_neg (by rw [e1]; exact e)], e1.symm⟩
theorem vic2 {u : DUses} (e : check u = 0) (h : u.list.length = 0) : 0 = victim u ∧ 5 = victimErr u := by
  have e1 : victimErr u = 5 := by unfold victimErr; rw [if_pos e, if_pos h]
  exact ⟨by unfold victim; rw [if_neg (by rw [e1]; decide)], e1.symm⟩
theorem vic3 {u : DUses} (e : check u = 0) (h : 0 < u.list.length) (h2 : ((least u.list : Int)).toNat < u.list.length) : (u.list[((least u.list : Int)).toNat]).key = victim u ∧ 0 = victimErr u := by
  have e1 : victimErr u = 0 := by unfold victimErr; rw [if_pos e, if_neg (by omega)]
  refine ⟨?_, e1.symm⟩
  unfold victim; rw [if_pos e1]
  have h3 : least u.list < u.list.length := by simpa using h2
  simp [List.getD, h3]
structure GInv (l m : List DUse) (k : Nat) : Prop where
  le : k ≤ l.length
  len : m.length = l.length
  at_ : ∀ j (h : j < m.length) (h2 : j < l.length), m[j] = if j < k then old l[j] else l[j]
theorem GInv.start (l : List DUse) : GInv l l 0 := ⟨Nat.zero_le _, rfl, fun j h h2 => by simp⟩
theorem GInv.next {l m : List DUse} {k : Nat} (h : GInv l m k) (hk : k < m.length) : GInv l (m.set k ⟨m[k].key, max 1 (m[k].count.tdiv 2)⟩) (k + 1) := by
  have hl := h.len
  refine ⟨by omega, by rw [List.length_set]; exact hl, fun j h1 h2 => ?_⟩
  rw [List.getElem_set]
  have h3 := h.at_ k hk (by omega)
  rw [if_neg (by omega)] at h3
  by_cases e : k = j
  · subst e; rw [if_pos rfl, if_pos (by omega), h3]; rfl
  · rw [if_neg e, h.at_ j (by simpa using h1) h2]
    by_cases g : j < k
    · rw [if_pos g, if_pos (by omega)]
    · rw [if_neg g, if_neg (by omega)]
theorem GInv.done {l m : List DUse} {k : Nat} (h : GInv l m k) (hk : l.length ≤ k) : m = l.map old := by
  have hl := h.len
  refine List.ext_getElem (by simp [hl]) fun j h1 h2 => ?_
  rw [h.at_ j h1 (by omega), if_pos (by omega), List.getElem_map]
theorem GInv.cnt {u : DUses} {m : List DUse} {k : Nat} (h : GInv u.list m k) (ho : Ok u) (hk : k < m.length) : 1 ≤ m[k].count ∧ m[k].count ≤ 1099511627776 := by
  have hl := h.len
  rw [h.at_ k hk (by omega), if_neg (by omega)]; exact ho.count _ (List.getElem_mem _)
theorem half_bd {a : Int} (h : 1 ≤ a ∧ a ≤ 1099511627776) : 0 ≤ a.tdiv 2 ∧ a.tdiv 2 ≤ 1099511627776 := by
  rw [Int.tdiv_eq_ediv_of_nonneg (by omega)]; omega
def KInv (u : DUses) (e : Int) (i : Nat) : Prop := i ≤ u.list.length ∧ e = (if Lru.keys (keysOf u.list) ≠ 0 then Lru.keys (keysOf u.list) else if (u.list.take i).any (fun x => !okCount x) = true then 3 else 0)
theorem KInv.start {u : DUses} {ks : List Int} (h : ks = keysOf u.list) : KInv u (Lru.keys ks) 0 := by
  subst h; refine ⟨Nat.zero_le _, ?_⟩
  split
  · rfl
  · rename_i g; simpa using g
theorem KInv.zero {u : DUses} {e : Int} {i : Nat} (h : KInv u e i) (h0 : e = 0) : Lru.keys (keysOf u.list) = 0 ∧ (u.list.take i).any (fun x => !okCount x) = false := by
  have h2 := h.2; rw [h0] at h2
  split at h2
  · rename_i g; exact absurd h2.symm g
  · split at h2
    · cases h2
    · rename_i g1 g2; exact ⟨Decidable.not_not.1 g1, Bool.not_eq_true _ ▸ g2⟩
theorem between_ok {x : DUse} : Ref.between x.count 1 1099511627776 = okCount x := by
  simp [Ref.between, okCount]
theorem KInv.ok {u : DUses} {e : Int} {i : Nat} (h : KInv u e i) (h0 : e = 0) (hi : i < u.list.length) (hb : Ref.between u.list[i].count 1 1099511627776 = true) : KInv u e (i + 1) := by
  obtain ⟨h1, h2⟩ := h.zero h0
  refine ⟨hi, ?_⟩
  rw [between_ok] at hb
  rw [if_neg (by simp [h1]), List.take_succ_eq_append_getElem hi, List.any_append, h2]
  simp [hb, h0]
theorem KInv.bad {u : DUses} {e : Int} {i : Nat} (h : KInv u e i) (h0 : e = 0) (hi : i < u.list.length) (hb : Ref.between u.list[i].count 1 1099511627776 = false) : KInv u 3 (i + 1) := by
  obtain ⟨h1, h2⟩ := h.zero h0
  refine ⟨hi, ?_⟩
  rw [between_ok] at hb
  rw [if_neg (by simp [h1]), List.take_succ_eq_append_getElem hi, List.any_append, h2]
  simp [hb]
theorem KInv.done {u : DUses} {e : Int} {i : Nat} (h : KInv u e i) (hd : (i : Int) < u.list.length → e ≠ 0) (h1 : Lru.okRoom u.room = true) (h2 : (u.list.length : Int) ≤ u.room) : e = check u := by
  rw [check, if_neg (by simp [h1]), if_neg (by omega), h.2]
  by_cases g : Lru.keys (keysOf u.list) ≠ 0
  · rw [if_pos g, if_pos g]
  · rw [if_neg g, if_neg g]
    by_cases hi : (i : Int) < u.list.length
    · have hne := hd hi
      rw [h.2, if_neg g] at hne
      have hany : (u.list.take i).any (fun x => !okCount x) = true := by
        by_cases g2 : (u.list.take i).any (fun x => !okCount x) = true
        · exact g2
        · rw [if_neg g2] at hne; exact absurd rfl hne
      have hall : u.list.any (fun x => !okCount x) = true := by
        obtain ⟨x, hx, hx2⟩ := List.any_eq_true.1 hany
        exact List.any_eq_true.2 ⟨x, List.mem_of_mem_take hx, hx2⟩
      rw [if_pos hany, if_pos hall]
    · rw [List.take_of_length_le (by omega)]
structure DInv (l : List DUse) (i : Int) (less : Bool) (k : Nat) : Prop where
  le : k ≤ l.length
  iff : less = true ↔ ∃ (j : Nat) (h : j < l.length) (h2 : i.toNat < l.length), j < k ∧ l[j].count < (l[i.toNat]).count
theorem DInv.start (l : List DUse) (i : Int) : DInv l i false 0 := ⟨Nat.zero_le _, by simp⟩
theorem DInv.next {l : List DUse} {i : Int} {less : Bool} {k : Nat} (h : DInv l i less k) (hk : k < l.length) (hi : i.toNat < l.length) : DInv l i (less || decide (l[k].count < (l[i.toNat]).count)) (k + 1) := by
  refine ⟨hk, ?_⟩
  rw [Bool.or_eq_true, h.iff, decide_eq_true_iff]
  constructor
  · rintro (⟨j, a, b, c, d⟩ | g)
    · exact ⟨j, a, b, by omega, d⟩
    · exact ⟨k, hk, hi, by omega, g⟩
  · rintro ⟨j, a, b, c, d⟩
    by_cases e : j = k
    · subst e; exact .inr d
    · exact .inl ⟨j, a, b, by omega, d⟩
/-- From the end on, none that is least. -/
structure EInv (l : List DUse) (i : Int) : Prop where
  bd : 0 ≤ i ∧ i < l.length
  more : ∀ j (hj : j < l.length), i < (j : Int) → ∃ t ∈ l, t.count < l[j].count
theorem EInv.start {l : List DUse} (h : 0 < l.length) : EInv l ((l.length : Int) - 1) := ⟨by omega, fun j hj h2 => by omega⟩
theorem EInv.next {l : List DUse} {i : Int} {less : Bool} {k : Nat} (h : EInv l i) (hd : DInv l i less k) (hk : (l.length : Int) ≤ k) (hl : less = true) (hp : 0 < i) : EInv l (i - 1) := by
  obtain ⟨j, a, b, c, d⟩ := hd.iff.1 hl
  have hb := h.bd
  refine ⟨by omega, fun q hq h2 => ?_⟩
  by_cases e : (q : Int) = i
  · have : q = i.toNat := by omega
    subst this; exact ⟨_, List.getElem_mem a, d⟩
  · exact h.more q hq (by omega)
theorem EInv.last {l : List DUse} {i : Int} {less : Bool} {k : Nat} (h : EInv l i) (hd : DInv l i less k) (hk : (l.length : Int) ≤ k) (hl : less = false) (hi : i.toNat < l.length) : (l[i.toNat]).key = (l.getD (least l) default).key := by
  have hb := h.bd
  have e : i.toNat = least l := by
    refine least_last (by omega) hi (fun t ht => ?_) fun j hj h2 => h.more j hj (by omega)
    obtain ⟨j, hj, rfl⟩ := List.getElem_of_mem ht
    by_cases g : l[j].count < (l[i.toNat]).count
    · exact absurd (hd.iff.2 ⟨j, hj, hi, by omega, g⟩) (by simp [hl])
    · omega
  have hll : least l < l.length := least_lt (by omega)
  simp only [← e]; simp [List.getD, hi]
theorem EInv.zero {l : List DUse} {i : Int} (h : EInv l i) (h0 : i ≤ 0) (hi : 0 < l.length) : (l[0]).key = (l.getD (least l) default).key := by
  have hb := h.bd
  have hz : i = 0 := by omega
  subst hz
  have e : 0 = Lfu.least l := by
    refine least_last (by omega) hi (fun t ht => ?_) fun j hj h2 => h.more j hj (by omega)
    have hll := least_lt hi
    by_cases g : Lfu.least l = 0
    · have := least_min hi t ht
      simpa [g] using this
    · obtain ⟨t2, ht2, h3⟩ := h.more (Lfu.least l) hll (by omega)
      have := least_min hi t2 ht2; omega
  simp only [← e]; simp [List.getD, hi]
end Go.Sx.Lfu

/- The clock algorithm: the plain functions. -/
namespace Go.Sx
structure DFrame where
  key : Int
  used : Bool
deriving DecidableEq
instance : Inhabited DFrame := ⟨⟨0, false⟩⟩
def tFrame : Ty DFrame := ⟨2, fun c => [.int .i64 c.key, .bool c.used], fun _ => rfl⟩
structure DClock where
  room : Int
  hand : Int
  frames : List DFrame
deriving DecidableEq
namespace Clock
def keysOf (l : List DFrame) : List Int := l.map (·.key)
def keysTo (l : List DFrame) (k : Nat) : List Int := keysOf (l.take k) ++ List.replicate (l.length - k) 0
theorem keysTo_zero (l : List DFrame) : List.replicate l.length 0 = keysTo l 0 := by simp [keysTo, keysOf]
theorem keysTo_length {l : List DFrame} {k : Nat} (h : k ≤ l.length) : (keysTo l k).length = l.length := by simp [keysTo, keysOf]; omega
theorem keysTo_succ {l : List DFrame} {k : Nat} (h : k < l.length) : (keysTo l k).set k l[k].key = keysTo l (k + 1) := by
  unfold keysTo keysOf
  rw [List.take_succ_eq_append_getElem h, List.map_append, List.append_assoc]
  have hl : ((l.take k).map (·.key)).length = k := by simp; omega
  rw [List.set_append, if_neg (by omega), hl, Nat.sub_self, show l.length - k = (l.length - (k + 1)) + 1 by omega, List.replicate_succ]
  rfl
theorem keysTo_next {l : List DFrame} {out : List Int} {k : Nat} (h : k < l.length) (e : out = keysTo l k) : out.set k l[k].key = keysTo l (k + 1) := by subst e; exact keysTo_succ h
theorem keys_end {l out : List _} {k : Nat} (h : l.length ≤ k) (hI : out = keysTo l k) : out = keysOf l := by
  rw [hI]; unfold keysTo; rw [List.take_of_length_le h, Nat.sub_eq_zero_of_le h]; simp
def check (c : DClock) : Int :=
  if Lru.okRoom c.room = false then 3 else if c.room < (c.frames.length : Int) then 2 else if Lru.keys (keysOf c.frames) ≠ 0 then Lru.keys (keysOf c.frames)
  else if c.hand < 0 ∨ max 0 ((c.frames.length : Int) - 1) < c.hand then 4 else 0
/-- A clock that may be touched. -/
structure Ok (c : DClock) : Prop where
  room : 1 ≤ c.room ∧ c.room ≤ 40
  len : (c.frames.length : Int) ≤ c.room
  hand0 : 0 ≤ c.hand
  hand1 : c.hand ≤ max 0 ((c.frames.length : Int) - 1)
theorem ok_of {c : DClock} (h : check c = 0) : Ok c := by
  unfold check at h
  repeat' split at h
  all_goals first | (cases h; done) | skip
  · contradiction
  · rename_i h1 h2 h3 h4
    simp only [Lru.okRoom] at h1
    simp at h1
    exact ⟨by omega, by omega, by omega, by omega⟩
def spin (fuel : Nat) (l : List DFrame) (h : Nat) : List DFrame × Nat :=
  match fuel with
  | 0 => (l, h)
  | f + 1 => if (l.getD h default).used then spin f (l.set h ⟨(l.getD h default).key, false⟩) ((h + 1) % l.length) else (l, h)
def touch (c : DClock) (key : Int) : DClock × Bool × Int :=
  if 0 ≤ idxF (fun f => f.key == key) c.frames then (⟨c.room, c.hand, c.frames.set (idxF (fun f => f.key == key) c.frames).toNat ⟨(c.frames.getD (idxF (fun f => f.key == key) c.frames).toNat default).key, true⟩⟩, true, -1)
  else if (c.frames.length : Int) < c.room then (⟨c.room, c.hand, c.frames ++ [⟨key, false⟩]⟩, false, -1)
  else (⟨c.room, (((spin c.frames.length c.frames c.hand.toNat).2 + 1) % c.frames.length : Nat), (spin c.frames.length c.frames c.hand.toNat).1.set (spin c.frames.length c.frames c.hand.toNat).2 ⟨key, false⟩⟩, false, ((spin c.frames.length c.frames c.hand.toNat).1.getD (spin c.frames.length c.frames c.hand.toNat).2 default).key)
def accessErr (c : DClock) (key : Int) : Int := if check c = 0 then (if Lru.okKey key then 0 else 3) else check c
def zero : DClock := ⟨0, 0, []⟩
def access (c : DClock) (key : Int) : DClock × Bool × Int := if accessErr c key = 0 then touch c key else (zero, false, 0)
def runGo (c : DClock) (n : Int) : List Int → DClock × Int
  | [] => (c, n)
  | k :: l => runGo (touch c k).1 (if (touch c k).2.1 then n + 1 else n) l
def runErr (c : DClock) (l : List Int) : Int := if check c = 0 then Lru.trace l else check c
def run (c : DClock) (l : List Int) : DClock × Int := if runErr c l = 0 then runGo c 0 l else (zero, 0)
def unused (l : List DFrame) : List DFrame := l.map fun f => ⟨f.key, false⟩
def clear (c : DClock) : DClock := if check c = 0 then ⟨c.room, c.hand, unused c.frames⟩ else zero
end Clock
end Go.Sx

/- The clock algorithm: what a touch does. -/
namespace Go.Sx.Clock
abbrev at_ (l : List DFrame) (key : Int) : Int := idxF (fun f : DFrame => f.key == key) l
theorem at_lt (l : List DFrame) (key : Int) : at_ l key < l.length ∧ -1 ≤ at_ l key := idxF_lt _ _
theorem touch_hit {c : DClock} {key : Int} (h : 0 ≤ at_ c.frames key) : touch c key = (⟨c.room, c.hand, c.frames.set (at_ c.frames key).toNat ⟨(c.frames[(at_ c.frames key).toNat]'(by have := at_lt c.frames key; omega)).key, true⟩⟩, true, -1) := by
  unfold touch; rw [if_pos h]
  have hl : (at_ c.frames key).toNat < c.frames.length := by have := at_lt c.frames key; omega
  simp [List.getD, hl]
theorem touch_room {c : DClock} {key : Int} (h : at_ c.frames key < 0) (h2 : (c.frames.length : Int) < c.room) : touch c key = (⟨c.room, c.hand, c.frames ++ [⟨key, false⟩]⟩, false, -1) := by
  unfold at_ at h; unfold touch; rw [if_neg (by omega), if_pos h2]
def usedOf (l : List DFrame) : Nat := l.countP (·.used)
structure SInv (c cc : DClock) : Prop where
  room : cc.room = c.room
  len : cc.frames.length = c.frames.length
  pos : 0 < c.frames.length
  small : c.frames.length ≤ 40
  h0 : 0 ≤ cc.hand
  h1 : cc.hand < cc.frames.length
  run : ∃ f, usedOf cc.frames ≤ f ∧ spin f cc.frames cc.hand.toNat = spin c.frames.length c.frames c.hand.toNat
theorem SInv.start {c : DClock} (h : Ok c) (h2 : c.room ≤ (c.frames.length : Int)) : SInv c c := by
  obtain ⟨⟨r1, r2⟩, l, a0, a1⟩ := h
  exact ⟨rfl, rfl, by omega, by omega, a0, by omega, _, List.countP_le_length, rfl⟩
theorem usedOf_set {l : List DFrame} {i : Nat} (h : i < l.length) (hu : l[i].used = true) (k : Int) : usedOf (l.set i ⟨k, false⟩) + 1 = usedOf l := by
  unfold usedOf
  rw [List.countP_set h]
  have hp : 0 < l.countP (·.used) := List.countP_pos_iff.2 ⟨l[i], List.getElem_mem h, hu⟩
  simp [hu]; omega
theorem tmod_next {h n : Int} (h0 : 0 ≤ h) (h1 : h < n) : (h + 1).tmod n = if h + 1 = n then 0 else h + 1 := by
  rw [Int.tmod_eq_emod_of_nonneg (by omega)]
  split
  · rename_i e; rw [e]; exact Int.emod_self
  · exact Int.emod_eq_of_lt (by omega) (by omega)
theorem mod_next {h n : Nat} (h1 : h < n) : (h + 1) % n = if h + 1 = n then 0 else h + 1 := by
  split
  · rename_i e; rw [e]; exact Nat.mod_self n
  · exact Nat.mod_eq_of_lt (by omega)
theorem spin_step {f : Nat} {l : List DFrame} {h : Nat} (hl : h < l.length) (hu : l[h].used = true) : spin (f + 1) l h = spin f (l.set h ⟨l[h].key, false⟩) ((h + 1) % l.length) := by
  rw [spin]; simp [List.getD, hl, hu]
theorem spin_stop {f : Nat} {l : List DFrame} {h : Nat} (hl : h < l.length) (hu : l[h].used = false) : spin f l h = (l, h) := by
  cases f with
  | zero => rfl
  | succ f => rw [spin]; simp [List.getD, hl, hu]
theorem SInv.next {c cc : DClock} (h : SInv c cc) (hl : cc.hand.toNat < cc.frames.length) (hu : cc.frames[cc.hand.toNat].used = true) :
    SInv c ⟨cc.room, (cc.hand + 1).tmod ((cc.frames.set cc.hand.toNat ⟨cc.frames[cc.hand.toNat].key, false⟩).length : Int), cc.frames.set cc.hand.toNat ⟨cc.frames[cc.hand.toNat].key, false⟩⟩ ∧
    usedOf (cc.frames.set cc.hand.toNat ⟨cc.frames[cc.hand.toNat].key, false⟩) < usedOf cc.frames := by
  obtain ⟨g1, g2, g3, g4, g5, g6, f, g7, g8⟩ := h
  have hc := usedOf_set hl hu cc.frames[cc.hand.toNat].key
  have hm := tmod_next g5 g6
  have hm2 := mod_next hl
  refine ⟨⟨g1, by simpa using g2, g3, g4, ?_, ?_, f - 1, by simp only; omega, ?_⟩, by omega⟩
  · simp only [List.length_set]; rw [hm]; split <;> omega
  · simp only [List.length_set]; rw [hm]; split <;> omega
  · obtain ⟨f', rfl⟩ : ∃ f', f = f' + 1 := ⟨f - 1, by omega⟩
    rw [spin_step hl hu] at g8
    rw [← g8]
    simp only [List.length_set, Nat.add_sub_cancel]
    congr 1
    rw [hm, hm2]; split <;> split <;> omega
theorem touch_evict {c cc : DClock} {key : Int} (h : SInv c cc) (hn : at_ c.frames key < 0) (h2 : c.room ≤ (c.frames.length : Int)) (hl : cc.hand.toNat < cc.frames.length) (hu : cc.frames[cc.hand.toNat].used = false) :
    touch c key = (⟨cc.room, (cc.hand + 1).tmod (cc.frames.length : Int), cc.frames.set cc.hand.toNat ⟨key, false⟩⟩, false, cc.frames[cc.hand.toNat].key) := by
  obtain ⟨g1, g2, g3, g4, g5, g6, f, g7, g8⟩ := h
  rw [spin_stop hl hu] at g8
  unfold touch
  rw [if_neg (by unfold at_ at hn; omega), if_neg (by omega), ← g8]
  simp only [g1]
  have hm := tmod_next g5 g6
  have hm2 := mod_next hl
  rw [hm, ← g2, hm2]
  have e : (cc.frames.getD cc.hand.toNat default) = cc.frames[cc.hand.toNat] := by simp [List.getD, hl]
  rw [e]
  congr 2
  split <;> split <;> omega
theorem tm_bounds {a n : Int} (ha : 0 ≤ a) : 0 < n → 0 ≤ a.tmod n ∧ a.tmod n < n := fun hn => by
  rw [Int.tmod_eq_emod_of_nonneg ha]; exact ⟨Int.emod_nonneg _ (by omega), Int.emod_lt_of_pos _ hn⟩
theorem tm_nat {h : Int} {p n : Nat} (h0 : 0 ≤ h) : ((h + (p : Int)).tmod (n : Int)).toNat = (h.toNat + p) % n := by
  obtain ⟨k, rfl⟩ : ∃ k : Nat, h = k := ⟨h.toNat, by omega⟩
  rw [Int.tmod_eq_emod_of_nonneg (by omega), show (k : Int) + (p : Int) = ((k + p : Nat) : Int) by omega, ← Int.natCast_emod, Int.toNat_natCast, Int.toNat_natCast]
structure PInv (c : DClock) (lc : List DFrame) (p : Nat) : Prop where
  len : lc.length = c.frames.length
  le : p ≤ c.frames.length
  run : spin (c.frames.length - p) lc ((c.hand.toNat + p) % c.frames.length) = spin c.frames.length c.frames c.hand.toNat
theorem PInv.start {c : DClock} (h : Ok c) (h2 : c.room ≤ (c.frames.length : Int)) : PInv c c.frames 0 := by
  obtain ⟨⟨r1, r2⟩, l, a0, a1⟩ := h
  exact ⟨rfl, Nat.zero_le _, by rw [Nat.add_zero, Nat.mod_eq_of_lt (by omega), Nat.sub_zero]⟩
theorem PInv.next {c : DClock} {lc : List DFrame} {p : Nat} (ho : Ok c) (h : PInv c lc p) (hp : p < c.frames.length) (hl : ((c.hand + (p : Int)).tmod (c.frames.length : Int)).toNat < lc.length) (hu : lc[((c.hand + (p : Int)).tmod (c.frames.length : Int)).toNat].used = true) :
    PInv c (lc.set ((c.hand + (p : Int)).tmod (c.frames.length : Int)).toNat ⟨lc[((c.hand + (p : Int)).tmod (c.frames.length : Int)).toNat].key, false⟩) (p + 1) := by
  obtain ⟨g1, g2, g3⟩ := h
  have ht := tm_nat (p := p) (n := c.frames.length) ho.hand0
  simp only [ht] at hl hu ⊢
  refine ⟨by simpa using g1, hp, ?_⟩
  rw [← g3, show c.frames.length - p = (c.frames.length - (p + 1)) + 1 by omega, spin_step hl hu]
  congr 1
  rw [g1, Nat.mod_add_mod]; congr 1
theorem touch_ref {c : DClock} {lc : List DFrame} {p : Nat} {key : Int} (ho : Ok c) (h : PInv c lc p) (hn : at_ c.frames key < 0) (h2 : c.room ≤ (c.frames.length : Int)) (hl : ((c.hand + (p : Int)).tmod (c.frames.length : Int)).toNat < lc.length)
    (hu : (c.frames.length : Int) ≤ (p : Int) ∨ lc[((c.hand + (p : Int)).tmod (c.frames.length : Int)).toNat].used = false) :
    touch c key = (⟨c.room, ((c.hand + (p : Int)).tmod (c.frames.length : Int) + 1).tmod (c.frames.length : Int), lc.set ((c.hand + (p : Int)).tmod (c.frames.length : Int)).toNat ⟨key, false⟩⟩, false, lc[((c.hand + (p : Int)).tmod (c.frames.length : Int)).toNat].key) := by
  obtain ⟨g1, g2, g3⟩ := h
  have ht := tm_nat (p := p) (n := c.frames.length) ho.hand0
  have hr := ho.room; have hr0 := ho.hand0
  have hpos : (0 : Int) < c.frames.length := by omega
  obtain ⟨b1, b2⟩ := tm_bounds (a := c.hand + (p : Int)) (n := (c.frames.length : Int)) (by omega) hpos
  have he : (c.hand + (p : Int)).tmod (c.frames.length : Int) = (((c.hand.toNat + p) % c.frames.length : Nat) : Int) := by rw [← ht]; omega
  simp only [ht] at hl hu ⊢
  simp only [he]
  have hs : spin (c.frames.length - p) lc ((c.hand.toNat + p) % c.frames.length) = (lc, (c.hand.toNat + p) % c.frames.length) := by
    rcases hu with hu | hu
    · rw [show c.frames.length - p = 0 by omega]; rfl
    · exact spin_stop hl hu
  rw [hs] at g3
  unfold touch
  rw [if_neg (by unfold at_ at hn; omega), if_neg (by omega), ← g3]
  have e : (lc.getD ((c.hand.toNat + p) % c.frames.length) default) = lc[(c.hand.toNat + p) % c.frames.length] := by simp [List.getD, hl]
  simp only [e]
  congr 2
theorem same_clock {a b : DClock} : a = b ↔ a.room = b.room ∧ a.hand = b.hand ∧ a.frames = b.frames := by
  constructor
  · rintro rfl; exact ⟨rfl, rfl, rfl⟩
  · rintro ⟨h1, h2, h3⟩; cases a; cases b; simp_all
theorem same_no {a b : DClock} (h : (a.room ≠ b.room ∨ a.hand ≠ b.hand) ∨ (a.frames.length : Int) ≠ b.frames.length) : false = decide (a = b) := by
  refine (decide_eq_false fun e => ?_).symm
  subst e; simp at h
theorem frame_ne {f g : DFrame} (h : f.key ≠ g.key ∨ f.used ≠ g.used) : f ≠ g := by rintro rfl; simp at h
theorem same_no2 {a b : DClock} {i : Nat} {h1 : i < a.frames.length} {h2 : i < b.frames.length} (h : a.frames[i].key ≠ b.frames[i].key ∨ a.frames[i].used ≠ b.frames[i].used) : false = decide (a = b) := by
  refine (decide_eq_false fun e => ?_).symm
  subst e; simp at h
theorem same_yes {a b : DClock} (h1 : a.room = b.room) (h2 : a.hand = b.hand) (h3 : (a.frames.length : Int) = b.frames.length) (h : ∀ j (h1 : j < a.frames.length) (h2 : j < b.frames.length), a.frames[j] = b.frames[j]) : true = decide (a = b) := by
  refine (decide_eq_true (same_clock.2 ⟨h1, h2, List.ext_getElem (by omega) fun i q1 q2 => h i q1 q2⟩)).symm
theorem frame_eq {f g : DFrame} (h1 : f.key = g.key) (h2 : f.used = g.used) : f = g := by cases f; cases g; simp_all
/-! ### Access and run -/
theorem acc_key {c : DClock} {key : Int} (h : check c = 0) (hk : Lru.okKey key = false) : access c key = (zero, false, 0) ∧ accessErr c key = 3 := by
  have e : accessErr c key = 3 := by unfold accessErr; rw [if_pos h, if_neg (by simp [hk])]
  exact ⟨by unfold access; rw [e]; rfl, e⟩
theorem acc_chk {c : DClock} (key : Int) (h : check c ≠ 0) : access c key = (zero, false, 0) ∧ accessErr c key = check c := by
  have e : accessErr c key = check c := by unfold accessErr; rw [if_neg h]
  exact ⟨by unfold access; rw [e, if_neg h], e⟩
theorem acc_ok {c : DClock} {key : Int} (h : check c = 0) (hk : Lru.okKey key = true) : access c key = touch c key ∧ accessErr c key = 0 := by
  have e : accessErr c key = 0 := by unfold accessErr; rw [if_pos h, if_pos hk]
  exact ⟨by unfold access; rw [if_pos e], e⟩
theorem acc_key2 {c : DClock} {key : Int} (h : check c = 0 ∧ Lru.okKey key = false) : access c key = (zero, false, 0) ∧ accessErr c key = 3 := acc_key h.1 h.2
theorem acc_ok2 {c : DClock} {key : Int} (h : ¬ check c = 0 ∨ Lru.okKey key = true) (h2 : check c = 0) : access c key = touch c key ∧ accessErr c key = 0 := acc_ok h2 (h.resolve_left fun h => h h2)
theorem run_chk {c : DClock} (l : List Int) (h : check c ≠ 0) : run c l = (zero, 0) ∧ runErr c l = check c := by
  have e : runErr c l = check c := by unfold runErr; rw [if_neg h]
  exact ⟨by unfold run; rw [e, if_neg h], e⟩
theorem run_tr {c : DClock} {l : List Int} (h : check c = 0) (h2 : Lru.trace l ≠ 0) : run c l = (zero, 0) ∧ runErr c l = Lru.trace l := by
  have e : runErr c l = Lru.trace l := by unfold runErr; rw [if_pos h]
  exact ⟨by unfold run; rw [e, if_neg h2], e⟩
theorem run_ok {c : DClock} {l : List Int} (h : check c = 0) (h2 : Lru.trace l = 0) : run c l = runGo c 0 l ∧ runErr c l = 0 := by
  have e : runErr c l = 0 := by unfold runErr; rw [if_pos h, h2]
  exact ⟨by unfold run; rw [e, if_pos rfl], e⟩
theorem spin_len : ∀ (f : Nat) (l : List DFrame) (h : Nat), (spin f l h).1.length = l.length ∧ (h < l.length → (spin f l h).2 < l.length)
  | 0, l, h => ⟨rfl, fun hl => hl⟩
  | f + 1, l, h => by
    rw [spin]; split
    · obtain ⟨h1, h2⟩ := spin_len f (l.set h ⟨(l.getD h default).key, false⟩) ((h + 1) % l.length)
      refine ⟨by simpa using h1, fun hl => ?_⟩
      have := h2 (by simpa using Nat.mod_lt _ (by omega))
      simpa using this
    · exact ⟨rfl, fun hl => hl⟩
theorem Ok.touch {c : DClock} (h : Ok c) (key : Int) : Ok (touch c key).1 := by
  obtain ⟨⟨r1, r2⟩, l, a0, a1⟩ := h
  unfold Clock.touch
  split
  · exact ⟨⟨r1, r2⟩, by simpa using l, a0, by simpa using a1⟩
  · split
    · exact ⟨⟨r1, r2⟩, by simp only [List.length_append, List.length_singleton]; omega, a0, by simp only [List.length_append, List.length_singleton]; omega⟩
    · obtain ⟨s1, s2⟩ := spin_len c.frames.length c.frames c.hand.toNat
      have := Nat.mod_lt ((spin c.frames.length c.frames c.hand.toNat).2 + 1) (show 0 < c.frames.length by omega)
      exact ⟨⟨r1, r2⟩, by simp only [List.length_set, s1]; omega, by simp only; omega, by simp only [List.length_set, s1]; omega⟩
theorem touch_hit2 {c : DClock} {key : Int} {i : Nat} (hl : i < c.frames.length) (hk : c.frames[i].key = key) (hn : ∀ j (h : j < c.frames.length), j < i → c.frames[j].key ≠ key) : touch c key = (⟨c.room, c.hand, c.frames.set i ⟨c.frames[i].key, true⟩⟩, true, -1) := by
  have e := idxF_found (f := fun f : DFrame => f.key == key) hl (by simpa using hk) (fun j h h2 => by simpa using hn j h h2)
  have e2 : at_ c.frames key = (i : Int) := e.symm
  rw [touch_hit (by omega)]
  simp only [e2, Int.toNat_natCast]
theorem at_neg {c : DClock} {key : Int} (hn : ∀ j (h : j < c.frames.length), c.frames[j].key ≠ key) : at_ c.frames key < 0 := by
  have e := idxF_none (f := fun f : DFrame => f.key == key) (l := c.frames) (fun j h => by simpa using hn j h)
  have e2 : at_ c.frames key = -1 := e.symm
  omega
theorem acc_cases (c : DClock) (key : Int) : (check c ≠ 0 ∧ access c key = (zero, false, 0) ∧ accessErr c key = check c) ∨ (check c = 0 ∧ (key < 0 ∨ 1048576 < key) ∧ access c key = (zero, false, 0) ∧ accessErr c key = 3) ∨ (check c = 0 ∧ (0 ≤ key ∧ key ≤ 1048576) ∧ access c key = touch c key ∧ accessErr c key = 0) := by
  by_cases h : check c = 0
  · cases hk : Lru.okKey key
    · refine .inr (.inl ⟨h, ?_, acc_key h hk⟩)
      simp [Lru.okKey] at hk; omega
    · exact .inr (.inr ⟨h, Lru.key_ok hk, acc_ok h hk⟩)
  · exact .inl ⟨h, acc_chk key h⟩
theorem run_cases (c : DClock) (l : List Int) : (check c ≠ 0 ∧ run c l = (zero, 0) ∧ runErr c l = check c) ∨ (check c = 0 ∧ Lru.trace l ≠ 0 ∧ run c l = (zero, 0) ∧ runErr c l = Lru.trace l) ∨ (check c = 0 ∧ Lru.trace l = 0 ∧ run c l = runGo c 0 l ∧ runErr c l = 0) := by
  by_cases h : check c = 0
  · by_cases h2 : Lru.trace l = 0
    · exact .inr (.inr ⟨h, h2, run_ok h h2⟩)
    · exact .inr (.inl ⟨h, h2, run_tr h h2⟩)
  · exact .inl ⟨h, run_chk l h⟩
theorem clear_bad {c : DClock} (h : check c ≠ 0) : clear c = zero := if_neg h
theorem clear_ok {c : DClock} (h : check c = 0) : clear c = ⟨c.room, c.hand, unused c.frames⟩ := if_pos h
structure RInv (c cc : DClock) (l : List Int) (n : Int) (k : Nat) : Prop where
  ok : Ok cc
  n0 : 0 ≤ n
  n1 : n ≤ (k : Int)
  le : k ≤ l.length
  go : runGo cc n (l.drop k) = runGo c 0 l
theorem RInv.start {c : DClock} (h : Ok c) (l : List Int) : RInv c c l 0 0 := ⟨h, Int.le_refl _, Int.le_refl _, Nat.zero_le _, rfl⟩
theorem RInv.hit {c cc : DClock} {l : List Int} {n : Int} {k : Nat} (h : RInv c cc l n k) (hk : k < l.length) (ht : (Clock.touch cc l[k]).2.1 = true) : RInv c (Clock.touch cc l[k]).1 l (n + 1) (k + 1) := by
  obtain ⟨g1, g2, g3, g4, g5⟩ := h
  rw [List.drop_eq_getElem_cons hk, runGo, if_pos ht] at g5
  exact ⟨g1.touch _, by omega, by omega, hk, g5⟩
theorem RInv.miss {c cc : DClock} {l : List Int} {n : Int} {k : Nat} (h : RInv c cc l n k) (hk : k < l.length) (ht : (Clock.touch cc l[k]).2.1 = false) : RInv c (Clock.touch cc l[k]).1 l n (k + 1) := by
  obtain ⟨g1, g2, g3, g4, g5⟩ := h
  rw [List.drop_eq_getElem_cons hk, runGo, if_neg (by simp [ht])] at g5
  exact ⟨g1.touch _, by omega, by omega, hk, g5⟩
theorem RInv.done {c cc : DClock} {l : List Int} {n : Int} {k : Nat} (h : RInv c cc l n k) (hk : (l.length : Int) ≤ k) : runGo c 0 l = (cc, n) := by
  rw [← h.go, List.drop_of_length_le (by omega)]; rfl
structure UInv (l cc : List DFrame) (k : Nat) : Prop where
  le : k ≤ l.length
  eq : cc = unused (l.take k) ++ l.drop k
theorem UInv.start (l : List DFrame) : UInv l l 0 := ⟨Nat.zero_le _, by simp [unused]⟩
theorem UInv.len {l cc : List DFrame} {k : Nat} (h : UInv l cc k) : cc.length = l.length := by have := h.le; rw [h.eq]; simp [unused]; omega
theorem UInv.next {l cc : List DFrame} {k : Nat} (h : UInv l cc k) (hk : k < l.length) (hl : k < cc.length) : UInv l (cc.set k ⟨cc[k].key, false⟩) (k + 1) := by
  have hle := h.le
  have he := h.eq
  subst he
  refine ⟨hk, ?_⟩
  have hl2 : (unused (l.take k)).length = k := by simp [unused]; omega
  have e : (unused (l.take k) ++ l.drop k)[k] = l[k] := by rw [List.getElem_append_right (by omega)]; simp [hl2]
  rw [e, List.set_append, if_neg (by omega), hl2, Nat.sub_self, List.drop_eq_getElem_cons hk, List.take_succ_eq_append_getElem hk]
  simp only [unused, List.map_append, List.map_cons, List.map_nil, List.set_cons_zero, List.append_assoc, List.singleton_append]
theorem UInv.done {l cc : List DFrame} {k : Nat} (h : UInv l cc k) (hk : (l.length : Int) ≤ k) : cc = unused l := by
  rw [h.eq, List.drop_of_length_le (by omega), List.take_of_length_le (by omega), List.append_nil]
theorem turn_eq {c tc : DClock} {i : Nat} (h : tc.room = c.room ∧ tc.hand = c.hand ∧ UInv c.frames tc.frames i) (hk : (c.frames.length : Int) ≤ i) : tc = ⟨c.room, c.hand, unused c.frames⟩ := same_clock.2 ⟨h.1, h.2.1, h.2.2.done hk⟩
end Go.Sx.Clock

/- The clock algorithm: the laws. -/
namespace Go.Sx.Clock
theorem md {h i n : Nat} (hh : h < n) (hi : i ≤ n) : (h + i) % n = if h + i < n then h + i else h + i - n := by
  split
  · exact Nat.mod_eq_of_lt (by assumption)
  · rw [Nat.mod_eq_sub_mod (by omega)]; exact Nat.mod_eq_of_lt (by omega)
theorem keysOf_set (l : List DFrame) (i : Nat) (f : DFrame) : keysOf (l.set i f) = (keysOf l).set i f.key := by simp [keysOf, List.map_set]
theorem keysOf_clear {l : List DFrame} {i : Nat} (h : i < l.length) (b : Bool) : keysOf (l.set i ⟨l[i].key, b⟩) = keysOf l := by
  rw [keysOf_set]
  have e : (keysOf l)[i]'(by simpa [keysOf] using h) = l[i].key := by simp [keysOf]
  simp only [← e]; exact List.set_getElem_self _
theorem spin_all {c : DClock} {h : Nat} (hh : h < c.frames.length) : ∀ (f j : Nat) (l : List DFrame), f + j = c.frames.length → (hl : l.length = c.frames.length) → keysOf l = keysOf c.frames →
    (∀ i (hi : j ≤ i ∧ i < c.frames.length), l[(h + i) % c.frames.length]'(by rw [hl]; exact Nat.mod_lt _ (by omega)) = c.frames[(h + i) % c.frames.length]'(Nat.mod_lt _ (by omega))) →
    (∀ i, i < j → (c.frames[(h + i) % c.frames.length]'(Nat.mod_lt _ (by omega))).used = true) →
    ∃ j', j ≤ j' ∧ j' ≤ c.frames.length ∧ (spin f l ((h + j) % c.frames.length)).2 = (h + j') % c.frames.length ∧ keysOf (spin f l ((h + j) % c.frames.length)).1 = keysOf c.frames ∧
      (∀ i, i < j' → (c.frames[(h + i) % c.frames.length]'(Nat.mod_lt _ (by omega))).used = true) ∧ (j' < c.frames.length → (c.frames[(h + j') % c.frames.length]'(Nat.mod_lt _ (by omega))).used = false) := by
  intro f
  induction f with
  | zero => intro j l hf hl hk h1 h2; exact ⟨j, Nat.le_refl _, by omega, rfl, hk, h2, fun h => by omega⟩
  | succ f ih =>
    intro j l hf hl hk h1 h2
    have hlt : (h + j) % c.frames.length < l.length := by rw [hl]; exact Nat.mod_lt _ (by omega)
    have hj := h1 j ⟨Nat.le_refl _, by omega⟩
    cases hu : (l[(h + j) % c.frames.length]'hlt).used
    · rw [spin_stop hlt hu]
      exact ⟨j, Nat.le_refl _, by omega, rfl, hk, h2, fun _ => by rw [← hj]; exact hu⟩
    · rw [spin_step hlt hu, hl, Nat.mod_add_mod, Nat.add_assoc]
      obtain ⟨j', g1, g2⟩ := ih (j + 1) (l.set ((h + j) % c.frames.length) ⟨(l[(h + j) % c.frames.length]'hlt).key, false⟩) (by omega) (by simpa using hl) (by rw [keysOf_clear hlt, hk]) (fun i hi => by
        rw [List.getElem_set_ne (by rw [md hh (by omega), md hh (by omega)]; split <;> split <;> omega)]
        exact h1 i ⟨by omega, hi.2⟩) (fun i hi => by
        by_cases e : i = j
        · subst e; rw [← hj]; exact hu
        · exact h2 i (by omega))
      exact ⟨j', by omega, g2⟩
theorem ok_keys {c : DClock} (h : check c = 0) : (∀ k ∈ keysOf c.frames, Lru.okKey k = true) ∧ (keysOf c.frames).Nodup := by
  unfold check at h
  split at h
  · cases h
  · split at h
    · cases h
    · split at h
      · contradiction
      · rename_i h3; exact Lru.keys_ok.1 (by simpa using h3)
theorem check_of {c : DClock} (h : Ok c) (h1 : ∀ k ∈ keysOf c.frames, Lru.okKey k = true) (h2 : (keysOf c.frames).Nodup) : check c = 0 := by
  obtain ⟨⟨r1, r2⟩, l, a0, a1⟩ := h
  have hk := Lru.keys_ok.2 ⟨h1, h2⟩
  unfold check
  rw [if_neg (by simp [Lru.okRoom]; omega), if_neg (by omega), if_neg (by simpa using hk), if_neg (by omega)]
theorem at_mem {l : List DFrame} {key : Int} (h : at_ l key < 0) : key ∉ keysOf l := by
  rcases idxF_cases (fun f : DFrame => f.key == key) l with ⟨k, hk, e, _⟩ | ⟨_, h1⟩
  · have : at_ l key = k := e
    omega
  · intro hm
    obtain ⟨f, hf, rfl⟩ := List.mem_map.1 hm
    have := h1 f hf
    simp at this
theorem nodup_set {l : List Int} (h : l.Nodup) {a : Int} (ha : a ∉ l) (i : Nat) : (l.set i a).Nodup := by
  refine List.pairwise_iff_getElem.2 fun p q hp hq hpq => ?_
  have hp' : p < l.length := by simpa using hp
  have hq' : q < l.length := by simpa using hq
  have := List.pairwise_iff_getElem.1 h p q hp' hq' hpq
  rw [List.getElem_set, List.getElem_set]
  split <;> split
  · omega
  · exact fun e => ha (e ▸ List.getElem_mem hq')
  · exact fun e => ha (e ▸ List.getElem_mem hp')
  · exact this
theorem mem_set_keys {l : List Int} {a x : Int} {i : Nat} (h : x ∈ l.set i a) : x = a ∨ x ∈ l := by
  rcases List.mem_or_eq_of_mem_set h with h | h
  · exact .inr h
  · exact .inl h
/-- What an eviction is. -/
theorem evict {c : DClock} {key : Int} (h : Ok c) (hn : at_ c.frames key < 0) (h2 : c.room ≤ (c.frames.length : Int)) :
    ∃ (i : Nat) (hi : i < c.frames.length), keysOf (touch c key).1.frames = (keysOf c.frames).set i key ∧ (touch c key).2 = (false, c.frames[i].key) ∧ (touch c key).1.frames.length = c.frames.length ∧ c.frames[i].used = c.frames.all (·.used) := by
  obtain ⟨⟨r1, r2⟩, l, a0, a1⟩ := h
  have hh : c.hand.toNat < c.frames.length := by omega
  obtain ⟨j', _, g1, g2, g3, g4, g5⟩ := spin_all (c := c) hh c.frames.length 0 c.frames rfl rfl rfl (fun _ _ => rfl) (fun i hi => by omega)
  rw [Nat.add_zero, Nat.mod_eq_of_lt hh] at g2 g3
  have hi : (h' : Nat) → h' = (c.hand.toNat + j') % c.frames.length → h' < c.frames.length := fun h' e => by rw [e]; exact Nat.mod_lt _ (by omega)
  have hsl := (spin_len c.frames.length c.frames c.hand.toNat).1
  have htk : touch c key = (⟨c.room, (((spin c.frames.length c.frames c.hand.toNat).2 + 1) % c.frames.length : Nat), (spin c.frames.length c.frames c.hand.toNat).1.set (spin c.frames.length c.frames c.hand.toNat).2 ⟨key, false⟩⟩, false, ((spin c.frames.length c.frames c.hand.toNat).1.getD (spin c.frames.length c.frames c.hand.toNat).2 default).key) := by
    unfold touch; rw [if_neg (by unfold at_ at hn; omega), if_neg (by omega)]
  have hkey : ∀ (l : List DFrame) (i : Nat) (h1 : i < l.length) (h2 : i < c.frames.length), keysOf l = keysOf c.frames → l[i].key = c.frames[i].key := fun l i h1 h2 e => by
    have := congrArg (·[i]?) e
    simpa [keysOf, h1, h2] using this
  generalize hsp : spin c.frames.length c.frames c.hand.toNat = sp at *
  obtain ⟨l', h'⟩ := sp
  simp only at g2 g3 hsl htk
  have hlt := hi h' g2
  refine ⟨h', hlt, ?_, ?_, ?_, ?_⟩
  · rw [htk]; simp only; rw [keysOf_set, g3]
  · rw [htk]; simp only
    have : l'.getD h' default = l'[h']'(by omega) := by simp [List.getD, show h' < l'.length by omega]
    rw [this, hkey l' h' (by omega) hlt g3]
  · rw [htk]; simpa using hsl
  · subst g2
    by_cases hj : j' < c.frames.length
    · rw [g5 hj]
      refine (List.all_eq_false.2 ⟨_, List.getElem_mem hlt, by simp [g5 hj]⟩).symm
    · obtain rfl : j' = c.frames.length := by omega
      have hall : ∀ k (hk : k < c.frames.length), c.frames[k].used = true := fun k hk => by
        have hex : ∃ i, i < c.frames.length ∧ (c.hand.toNat + i) % c.frames.length = k := by
          by_cases hk2 : c.hand.toNat ≤ k
          · exact ⟨k - c.hand.toNat, by omega, by rw [md hh (by omega)]; split <;> omega⟩
          · exact ⟨k + c.frames.length - c.hand.toNat, by omega, by rw [md hh (by omega)]; split <;> omega⟩
        obtain ⟨i, hi1, hi2⟩ := hex
        have := g4 i hi1
        simp only [hi2] at this
        exact this
      rw [hall _ hlt]
      refine (List.all_eq_true.2 fun f hf => ?_).symm
      obtain ⟨k, hk, rfl⟩ := List.getElem_of_mem hf
      exact hall k hk
theorem check_touch {c : DClock} {key : Int} (h : check c = 0) (hk : Lru.okKey key = true) : check (touch c key).1 = 0 := by
  have ho := ok_of h
  obtain ⟨k1, k2⟩ := ok_keys h
  have hot := ho.touch key
  by_cases h1 : 0 ≤ at_ c.frames key
  · have e : keysOf (touch c key).1.frames = keysOf c.frames := by rw [touch_hit h1]; exact keysOf_clear _ true
    exact check_of hot (by rw [e]; exact k1) (by rw [e]; exact k2)
  · have hm := at_mem (l := c.frames) (key := key) (by omega)
    by_cases h2 : (c.frames.length : Int) < c.room
    · have e : keysOf (touch c key).1.frames = keysOf c.frames ++ [key] := by rw [touch_room (by omega) h2]; simp [keysOf]
      refine check_of hot (by rw [e]; intro k hkm; rcases List.mem_append.1 hkm with h | h; exact k1 k h; rw [List.mem_singleton.1 h]; exact hk) ?_
      rw [e]
      refine List.nodup_append.2 ⟨k2, by simp, fun a ha b hb => ?_⟩
      rw [List.mem_singleton.1 hb]; exact fun e => hm (e ▸ ha)
    · obtain ⟨i, hi, e, _⟩ := evict (key := key) ho (by omega) (by omega)
      refine check_of hot (by rw [e]; intro k hkm; rcases mem_set_keys hkm with h | h; rw [h]; exact hk; exact k1 k h) (by rw [e]; exact nodup_set k2 hm i)
theorem count_one {l : List Int} {a : Int} (h : l.Nodup) (ha : a ∈ l) : l.count a = 1 := by
  induction l with
  | nil => cases ha
  | cons b l ih =>
    rw [List.nodup_cons] at h
    by_cases e : b = a
    · subst e; rw [List.count_cons_self, List.count_eq_zero_of_not_mem h.1]
    · rw [List.count_cons_of_ne e]
      exact ih h.2 ((List.mem_cons.1 ha).resolve_left (fun x => e x.symm))
def usedAt (g : Int) (u : Bool) (f : DFrame) : Bool := if f.key = g then f.used else u
theorem foldl_other {g : Int} {l : List DFrame} (h : g ∉ keysOf l) (b : Bool) : l.foldl (usedAt g) b = b := by
  induction l generalizing b with
  | nil => rfl
  | cons f l ih =>
    simp only [keysOf, List.map_cons, List.mem_cons, not_or] at h
    rw [List.foldl_cons, usedAt, if_neg (fun e => h.1 e.symm)]
    exact ih h.2 b
theorem foldl_at {l : List DFrame} {i : Nat} (hi : i < l.length) (hn : (keysOf l).Nodup) (b : Bool) : l.foldl (usedAt l[i].key) b = l[i].used := by
  induction l generalizing i b with
  | nil => simp at hi
  | cons f l ih =>
    simp only [keysOf, List.map_cons, List.nodup_cons] at hn
    cases i with
    | zero =>
      rw [List.foldl_cons]
      simp only [List.getElem_cons_zero, usedAt, if_true]
      exact foldl_other hn.1 _
    | succ i =>
      have hi' : i < l.length := by simpa using hi
      rw [List.foldl_cons]
      simp only [List.getElem_cons_succ]
      exact ih hi' hn.2 _
theorem acc_err {c : DClock} {key : Int} (h : accessErr c key = 0) : check c = 0 ∧ Lru.okKey key = true ∧ access c key = touch c key := by
  rcases acc_cases c key with ⟨a, b, d⟩ | ⟨a, a2, b, d⟩ | ⟨a, a2, b, d⟩
  · omega
  · omega
  · exact ⟨a, by simp [Lru.okKey]; omega, b⟩
theorem spares_check {c : DClock} {key : Int} (h : accessErr c key = 0) : check (access c key).1 = 0 := by
  obtain ⟨h1, h2, h3⟩ := acc_err h
  rw [h3]; exact check_touch h1 h2
theorem spares {c : DClock} {key : Int} (h : accessErr c key = 0) (hh : (access c key).2.1 = false) (hg : 0 ≤ (access c key).2.2) :
    (∀ i (hi : i < (access c key).1.frames.length), (access c key).1.frames[i].key ≠ (access c key).2.2) ∧ c.frames.foldl (usedAt (access c key).2.2) false = c.frames.all (·.used) ∧
    (access c key).1.frames.countP (fun f => f.key == key) = 1 ∧ ((access c key).1.frames.length : Int) = c.room ∧ check (access c key).1 = 0 := by
  have hc := spares_check h
  obtain ⟨h1, h2, h3⟩ := acc_err h
  rw [h3] at hh hg hc ⊢
  have ho := ok_of h1
  obtain ⟨k1, k2⟩ := ok_keys h1
  by_cases q1 : 0 ≤ at_ c.frames key
  · rw [touch_hit q1] at hh; cases hh
  · by_cases q2 : (c.frames.length : Int) < c.room
    · rw [touch_room (by omega) q2] at hg; simp at hg
    · obtain ⟨i, hi, e1, e2, e3, e4⟩ := evict (key := key) ho (by omega) (by omega)
      have hm := at_mem (l := c.frames) (key := key) (by omega)
      have hr := ho.len
      have eg : (touch c key).2.2 = c.frames[i].key := by rw [e2]
      have hik : (keysOf c.frames)[i]'(by simpa [keysOf] using hi) = c.frames[i].key := by simp [keysOf]
      refine ⟨fun p hp hpe => ?_, by rw [eg, foldl_at hi k2, e4], ?_, by omega, hc⟩
      · have hp' : p < (keysOf c.frames).length := by simp [keysOf]; omega
        have hpk : ((keysOf c.frames).set i key)[p]'(by simpa using hp') = c.frames[i].key := by
          have h4 : (keysOf (touch c key).1.frames)[p]'(by simpa [keysOf] using hp) = (touch c key).1.frames[p].key := by simp [keysOf]
          have h5 : (keysOf (touch c key).1.frames)[p]? = ((keysOf c.frames).set i key)[p]? := by rw [e1]
          rw [List.getElem?_eq_getElem (by simpa [keysOf] using hp), List.getElem?_eq_getElem (by simpa using hp'), Option.some.injEq] at h5
          rw [← h5, h4, hpe, eg]
        rw [List.getElem_set] at hpk
        split at hpk
        · exact hm (by rw [hpk, ← hik]; exact List.getElem_mem _)
        · rename_i hne
          rw [← hik] at hpk
          have hnd := List.pairwise_iff_getElem.1 k2
          rcases Nat.lt_or_gt_of_ne hne with hl | hl
          · exact hnd i p (by simpa [keysOf] using hi) hp' hl hpk.symm
          · exact hnd p i hp' (by simpa [keysOf] using hi) hl hpk
      · have hcount : (touch c key).1.frames.countP (fun f => f.key == key) = (keysOf (touch c key).1.frames).count key := by
          unfold keysOf List.count; rw [List.countP_map]; rfl
        rw [hcount, e1]
        exact count_one (nodup_set k2 hm i) (List.mem_set (by simpa [keysOf] using hi) key)
/-! ### In two parts -/
theorem runGo_shift (l : List Int) : ∀ (c : DClock) (n : Int), runGo c n l = ((runGo c 0 l).1, n + (runGo c 0 l).2) := by
  induction l with
  | nil => intro c n; simp [runGo]
  | cons k l ih =>
    intro c n
    rw [runGo, runGo, ih, ih (touch c k).1 (if (touch c k).2.1 then 0 + 1 else 0)]
    split <;> simp [Int.add_assoc]
theorem runGo_append (l m : List Int) : ∀ (c : DClock) (n : Int), runGo c n (l ++ m) = runGo (runGo c n l).1 (runGo c n l).2 m := by
  induction l with
  | nil => intro c n; rfl
  | cons k l ih => intro c n; rw [List.cons_append, runGo, ih, runGo]
theorem check_run (l : List Int) : ∀ (c : DClock) (n : Int), check c = 0 → (∀ k ∈ l, Lru.okKey k = true) → check (runGo c n l).1 = 0 := by
  induction l with
  | nil => intro c n h _; exact h
  | cons k l ih => intro c n h hk; rw [runGo]; exact ih _ _ (check_touch h (hk k (by simp))) (fun j hj => hk j (by simp [hj]))
theorem run_n (l : List Int) : ∀ (c : DClock), 0 ≤ (runGo c 0 l).2 ∧ (runGo c 0 l).2 ≤ l.length := by
  induction l with
  | nil => intro c; simp [runGo]
  | cons k l ih =>
    intro c
    rw [runGo, runGo_shift]
    have := ih (touch c k).1
    split <;> simp <;> omega
theorem run_err {c : DClock} {l : List Int} (h : runErr c l = 0) : check c = 0 ∧ Lru.trace l = 0 ∧ run c l = runGo c 0 l := by
  rcases run_cases c l with ⟨a, b, d⟩ | ⟨a, a2, b, d⟩ | ⟨a, a2, b, d⟩
  · omega
  · omega
  · exact ⟨a, a2, b⟩
theorem run_no {c : DClock} {l : List Int} (h : runErr c l ≠ 0) : run c l = (zero, 0) := by
  rcases run_cases c l with ⟨a, b, d⟩ | ⟨a, a2, b, d⟩ | ⟨a, a2, b, d⟩
  · exact b
  · exact b
  · exact absurd d h
theorem parts_err {c : DClock} {l m : List Int} (h : runErr c l = 0) (h2 : runErr (run c l).1 m ≠ 0 ∨ runErr c (l ++ m) ≠ 0) : runErr (run c l).1 m = runErr c (l ++ m) ∨ runErr c (l ++ m) = 2 := by
  obtain ⟨a1, a2, a3⟩ := run_err h
  obtain ⟨t1, t2⟩ := Lru.trace_ok.1 a2
  have hc := check_run l c 0 a1 t2
  rw [a3] at h2 ⊢
  have e1 : runErr (runGo c 0 l).1 m = Lru.trace m := by unfold runErr; rw [if_pos hc]
  have e2 : runErr c (l ++ m) = Lru.trace (l ++ m) := by unfold runErr; rw [if_pos a1]
  rw [e1, e2]
  by_cases g : 200 < (l ++ m).length
  · right; unfold Lru.trace; rw [if_pos g]
  · left
    have g2 : ¬ 200 < m.length := by rw [List.length_append] at g; omega
    have g3 : (l ++ m).any (fun k => !Lru.okKey k) = m.any (fun k => !Lru.okKey k) := by
      have : l.any (fun k => !Lru.okKey k) = false := List.any_eq_false.2 fun k hk => by simp [t2 k hk]
      rw [List.any_append, this, Bool.false_or]
    unfold Lru.trace; rw [if_neg g, if_neg g2, g3]
theorem parts_ok {c : DClock} {l m : List Int} (h : runErr c l = 0) (h2 : runErr (run c l).1 m = 0) (h3 : runErr c (l ++ m) = 0) :
    (run (run c l).1 m).1 = (run c (l ++ m)).1 ∧ (run c (l ++ m)).2 = (run c l).2 + (run (run c l).1 m).2 ∧ 0 ≤ (run c l).2 ∧ (run c l).2 ≤ 200 ∧ 0 ≤ (run (run c l).1 m).2 ∧ (run (run c l).1 m).2 ≤ 200 := by
  obtain ⟨a1, a2, a3⟩ := run_err h
  obtain ⟨b1, b2, b3⟩ := run_err h2
  obtain ⟨c1, c2, c3⟩ := run_err h3
  have n1 := run_n l c
  have n2 := run_n m (run c l).1
  have t1 := (Lru.trace_ok.1 a2).1
  have t2 := (Lru.trace_ok.1 b2).1
  have e := runGo_append l m c 0
  rw [runGo_shift m] at e
  rw [b3, c3, e, a3] at *
  exact ⟨rfl, rfl, by omega, by omega, by omega, by omega⟩
theorem parts_bool {c : DClock} {l m : List Int} (h : runErr c l = 0) (h2 : runErr (run c l).1 m = 0) (h3 : runErr c ([] ++ l ++ m) = 0) :
    (decide ((run (run c l).1 m).1 = (run c ([] ++ l ++ m)).1) && ((run c ([] ++ l ++ m)).2 == IntKind.i64.wrap ((run c l).2 + (run (run c l).1 m).2))) = true := by
  obtain ⟨p1, p2, p3, p4, p5, p6⟩ := parts_ok (l := l) h h2 h3
  rw [wrap_i64 (by omega)]
  simp only [List.nil_append]
  simp [p1, p2]
theorem parts_bool2 {c : DClock} {l m : List Int} (h : runErr c l = 0) (h2 : runErr (run c l).1 m ≠ 0 ∨ runErr c ([] ++ l ++ m) ≠ 0) : (runErr (run c l).1 m == runErr c ([] ++ l ++ m) || runErr c ([] ++ l ++ m) == 2) = true := by
  rcases parts_err (l := l) h h2 with e | e
  · simp only [List.nil_append]; simp [e]
  · simp only [List.nil_append]; simp [e]
theorem parts_bool3 {c : DClock} {l : List Int} (h : runErr c l ≠ 0) : ((run c l).2 == 0 && (((run c l).1.frames.length : Int) == 0)) = true := by rw [run_no h]; rfl
theorem run_small {c : DClock} {l : List Int} (h : runErr c l = 0) : l.length ≤ 200 := (Lru.trace_ok.1 (run_err h).2.1).1
theorem spares_bool {c : DClock} {key : Int} : (accessErr c key != 0 || check (access c key).1 == 0) = true := by
  by_cases h : accessErr c key = 0
  · simp [spares_check h]
  · simp [h]
structure SpInv (c : DClock) (g : Int) (all_ used_ : Bool) (i : Nat) : Prop where
  le : i ≤ c.frames.length
  al : all_ = (c.frames.take i).all (·.used)
  us : used_ = (c.frames.take i).foldl (usedAt g) false
theorem SpInv.start (c : DClock) (g : Int) : SpInv c g true false 0 := ⟨Nat.zero_le _, rfl, rfl⟩
theorem SpInv.hit {c : DClock} {g : Int} {a u : Bool} {i : Nat} (h : SpInv c g a u i) (hi : i < c.frames.length) (hk : c.frames[i].key = g) : SpInv c g (a && c.frames[i].used) c.frames[i].used (i + 1) :=
  ⟨hi, by rw [List.take_succ_eq_append_getElem hi, List.all_append, ← h.al]; simp, by rw [List.take_succ_eq_append_getElem hi, List.foldl_append, ← h.us]; simp [usedAt, hk]⟩
theorem SpInv.miss {c : DClock} {g : Int} {a u : Bool} {i : Nat} (h : SpInv c g a u i) (hi : i < c.frames.length) (hk : c.frames[i].key ≠ g) : SpInv c g (a && c.frames[i].used) u (i + 1) :=
  ⟨hi, by rw [List.take_succ_eq_append_getElem hi, List.all_append, ← h.al]; simp, by rw [List.take_succ_eq_append_getElem hi, List.foldl_append, ← h.us]; simp [usedAt, hk]⟩
structure SqInv (l : List DFrame) (key : Int) (left : Int) (i : Nat) : Prop where
  le : i ≤ l.length
  eq : left = ((l.take i).countP (fun f => f.key == key) : Nat)
theorem SqInv.start (l : List DFrame) (key : Int) : SqInv l key 0 0 := ⟨Nat.zero_le _, rfl⟩
theorem SqInv.bd {l : List DFrame} {key left : Int} {i : Nat} (h : SqInv l key left i) : 0 ≤ left ∧ left ≤ i := by
  rw [h.eq]; have := List.countP_le_length (p := fun f : DFrame => f.key == key) (l := l.take i); have := List.length_take_le i l; omega
theorem SqInv.hit {l : List DFrame} {key left : Int} {i : Nat} (h : SqInv l key left i) (hi : i < l.length) (hk : l[i].key = key) : SqInv l key (left + 1) (i + 1) :=
  ⟨hi, by rw [List.take_succ_eq_append_getElem hi, List.countP_append, h.eq]; simp [hk]⟩
theorem SqInv.miss {l : List DFrame} {key left : Int} {i : Nat} (h : SqInv l key left i) (hi : i < l.length) (hk : l[i].key ≠ key) : SqInv l key left (i + 1) :=
  ⟨hi, by rw [List.take_succ_eq_append_getElem hi, List.countP_append, h.eq]; simp [hk]⟩
theorem spares_end {c : DClock} {key : Int} {a u : Bool} {left : Int} {i j : Nat} (h : accessErr c key = 0) (hh : (access c key).2.1 = false) (hg : 0 ≤ (access c key).2.2) (h1 : SpInv c (access c key).2.2 a u i) (hi : (c.frames.length : Int) ≤ i)
    (h2 : SqInv (access c key).1.frames key left j) (hj : ((access c key).1.frames.length : Int) ≤ j) : ((((u == a) && (left == 1)) && (((access c key).1.frames.length : Int) == c.room)) && (check (access c key).1 == 0)) = true := by
  obtain ⟨s1, s2, s3, s4, s5⟩ := spares h hh hg
  have ea := h1.al; have eu := h1.us; have el := h2.eq
  rw [List.take_of_length_le (by omega)] at ea eu el
  rw [ea, eu, el, s2, s3, s4, s5]
  simp
end Go.Sx.Clock
