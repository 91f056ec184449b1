/- Belady: no replacement has fewer misses than the one that removes what comes again last. -/
import Derived.Test.YthecfjipaepcgaaLbPure
namespace Go.Sx.Belady
theorem nodup_le : ∀ {l m : List Int}, l.Nodup → (∀ x ∈ l, x ∈ m) → l.length ≤ m.length
  | [], _, _, _ => Nat.zero_le _
  | x :: l, m, hn, hs => by
    obtain ⟨h1, h2⟩ := List.nodup_cons.1 hn
    have hx : x ∈ m := hs x (by simp)
    have ih := nodup_le (l := l) (m := m.erase x) h2 (fun y hy => by
      have hne : y ≠ x := fun e => h1 (e ▸ hy)
      exact (List.mem_erase_of_ne hne).2 (hs y (by simp [hy])))
    have := List.length_erase_of_mem hx
    have := List.length_pos_of_mem hx
    simp only [List.length_cons]; omega
/-- how many of C, other than k, come in p -/
def rest (C : List Int) (k : Int) (p : List Int) : Nat := (C.filter fun c => decide (c ≠ k ∧ c ∈ p)).length
def cnt (C : List Int) (p : List Int) : Nat := (C.filter fun c => decide (c ∈ p)).length
theorem rest_le {C D : List Int} {k : Int} (p : List Int) (hn : D.Nodup) (h : ∀ x ∈ D, x = k ∨ x ∈ C) : rest D k p ≤ rest C k p := by
  refine nodup_le (hn.filter _) fun x hx => ?_
  simp only [List.mem_filter, decide_eq_true_eq] at hx ⊢
  exact ⟨(h x hx.1).resolve_left hx.2.1, hx.2⟩
theorem rest_lt {D : List Int} {k : Int} (p : List Int) (hn : D.Nodup) (hk : k ∈ D) : rest D k p + 1 ≤ D.length := by
  have h : (k :: D.filter fun c => decide (c ≠ k ∧ c ∈ p)).length ≤ D.length := by
    refine nodup_le (List.nodup_cons.2 ⟨by simp, hn.filter _⟩) fun x hx => ?_
    rcases List.mem_cons.1 hx with rfl | hx
    · exact hk
    · exact (List.mem_filter.1 hx).1
  simpa [rest] using h
theorem rest_all {C : List Int} {k : Int} {p : List Int} (hn : C.Nodup) (hk : k ∈ C) (h : ∀ x ∈ C, x ≠ k → x ∈ p) : rest C k p + 1 = C.length := by
  refine Nat.le_antisymm (rest_lt p hn hk) ?_
  have h2 : C.length ≤ (k :: C.filter fun c => decide (c ≠ k ∧ c ∈ p)).length := nodup_le hn fun x hx => by
    by_cases e : x = k
    · simp [e]
    · exact List.mem_cons_of_mem _ (by simp [hx, e, h x hx e])
  simpa [rest] using h2
theorem rest_cons (c : Int) (C : List Int) (k : Int) (p : List Int) : rest (c :: C) k p = (if c ≠ k ∧ c ∈ p then 1 else 0) + rest C k p := by
  unfold rest; rw [List.filter_cons]
  by_cases h : c ≠ k ∧ c ∈ p
  · rw [if_pos (by simpa using h), if_pos h]; simp only [List.length_cons]; omega
  · rw [if_neg (by simpa using h), if_neg h]; omega
theorem cnt_cons1 (c : Int) (C : List Int) (p : List Int) : cnt (c :: C) p = (if c ∈ p then 1 else 0) + cnt C p := by
  unfold cnt; rw [List.filter_cons]
  by_cases h : c ∈ p
  · rw [if_pos (by simpa using h), if_pos h]; simp only [List.length_cons]; omega
  · rw [if_neg (by simpa using h), if_neg h]; omega
theorem cnt_cons {C : List Int} {k : Int} (p : List Int) (hn : C.Nodup) : cnt C (k :: p) = (if k ∈ C then 1 else 0) + rest C k p := by
  induction C with
  | nil => simp [cnt, rest]
  | cons c C ih =>
    obtain ⟨h1, h2⟩ := List.nodup_cons.1 hn
    rw [cnt_cons1, rest_cons, ih h2]
    by_cases e : c = k
    · subst e; simp [h1]
    · have e' : ¬ k = c := fun h => e h.symm
      by_cases hp : c ∈ p <;> by_cases hk : k ∈ C <;> simp [e, e', hp, hk] <;> omega
theorem cnt_in {C : List Int} {k : Int} (p : List Int) (hn : C.Nodup) (hk : k ∈ C) : cnt C p = (if k ∈ p then 1 else 0) + rest C k p := by
  have key : ∀ {C : List Int}, C.Nodup → cnt C p = (if k ∈ p ∧ k ∈ C then 1 else 0) + rest C k p := by
    intro C hn
    induction C with
    | nil => simp [cnt, rest]
    | cons c C ih =>
      obtain ⟨h1, h2⟩ := List.nodup_cons.1 hn
      rw [cnt_cons1, rest_cons, ih h2]
      by_cases e : c = k
      · subst e; simp [h1]
      · have e' : ¬ k = c := fun h => e h.symm
        by_cases hp : c ∈ p <;> by_cases hk : k ∈ C <;> by_cases hq : k ∈ p <;> simp [e, e', hp, hk, hq] <;> omega
  rw [key hn]; simp [hk]
/-- Any replacement on demand, from the cache C. -/
inductive Run (room : Nat) : List Int → List Int → Nat → Prop
  | nil (C : List Int) : Run room C [] 0
  | hit {C C' : List Int} {k : Int} {t : List Int} {n : Nat} : k ∈ C → C'.Nodup → C'.length ≤ room → k ∈ C' → (∀ x ∈ C', x ∈ C) → Run room C' t n → Run room C (k :: t) n
  | miss {C C' : List Int} {k : Int} {t : List Int} {n : Nat} : k ∉ C → C'.Nodup → C'.length ≤ room → k ∈ C' → (∀ x ∈ C', x = k ∨ x ∈ C) → Run room C' t n → Run room C (k :: t) (n + 1)
/-- The one that removes what comes again last. -/
inductive Opt (room : Nat) : List Int → List Int → Nat → Prop
  | nil (C : List Int) : Opt room C [] 0
  | hit {C C' : List Int} {k : Int} {t : List Int} {n : Nat} : k ∈ C → C'.Nodup → (∀ x, x ∈ C' ↔ x ∈ C) → Opt room C' t n → Opt room C (k :: t) n
  | add {C C' : List Int} {k : Int} {t : List Int} {n : Nat} : k ∉ C → C.length < room → C'.Nodup → (∀ x, x ∈ C' ↔ x = k ∨ x ∈ C) → Opt room C' t n → Opt room C (k :: t) (n + 1)
  | evict {C C' : List Int} {k f : Int} {t : List Int} {n : Nat} : k ∉ C → C.length = room → f ∈ C → (∀ T, f ∈ t.take T → ∀ c ∈ C, c ∈ t.take T) → C'.Nodup → (∀ x, x ∈ C' ↔ x = k ∨ x ∈ C ∧ x ≠ f) → Opt room C' t n → Opt room C (k :: t) (n + 1)
theorem Run.mono {room room' : Nat} (h : room ≤ room') {C t : List Int} {n : Nat} (hr : Run room C t n) : Run room' C t n := by
  induction hr with
  | nil C => exact .nil C
  | hit a b c d e _ ih => exact .hit a b (by omega) d e ih
  | miss a b c d e _ ih => exact .miss a b (by omega) d e ih
theorem len_eq {C C' : List Int} (h1 : C.Nodup) (h2 : C'.Nodup) (h : ∀ x, x ∈ C' ↔ x ∈ C) : C'.length = C.length :=
  Nat.le_antisymm (nodup_le h2 fun x hx => (h x).1 hx) (nodup_le h1 fun x hx => (h x).2 hx)
theorem len_add {C C' : List Int} {k : Int} (h1 : C.Nodup) (h2 : C'.Nodup) (hk : k ∉ C) (h : ∀ x, x ∈ C' ↔ x = k ∨ x ∈ C) : C'.length = C.length + 1 := by
  have := len_eq (C := k :: C) (List.nodup_cons.2 ⟨hk, h1⟩) h2 (fun x => by rw [h x]; simp)
  simpa using this
theorem len_evict {C C' : List Int} {k f : Int} (h1 : C.Nodup) (h2 : C'.Nodup) (hk : k ∉ C) (hf : f ∈ C) (h : ∀ x, x ∈ C' ↔ x = k ∨ x ∈ C ∧ x ≠ f) : C'.length = C.length := by
  have := len_add (C := C.erase f) (k := k) (h1.erase _) h2 (fun hm => hk (List.mem_of_mem_erase hm)) (fun x => by rw [h x, h1.mem_erase_iff]; simp [and_comm])
  rw [this, List.length_erase_of_mem hf]
  have := List.length_pos_of_mem hf
  omega
theorem Opt.run {room : Nat} {C t : List Int} {n : Nat} (hr : Opt room C t n) : C.Nodup → C.length ≤ room → Run room C t n := by
  induction hr with
  | nil C => exact fun _ _ => .nil C
  | hit a b c _ ih => exact fun h1 h2 => .hit a b (by rw [len_eq h1 b c]; exact h2) ((c _).2 a) (fun x hx => (c x).1 hx) (ih b (by rw [len_eq h1 b c]; exact h2))
  | add a b c d _ ih => exact fun h1 h2 => .miss a c (by rw [len_add h1 c a d]; omega) ((d _).2 (.inl rfl)) (fun x hx => (d x).1 hx) (ih c (by rw [len_add h1 c a d]; omega))
  | evict a b c _ d e _ ih => exact fun h1 h2 => .miss a d (by rw [len_evict h1 d a c e]; omega) ((e _).2 (.inl rfl)) (fun x hx => ((e x).1 hx).imp id (·.1)) (ih d (by rw [len_evict h1 d a c e]; omega))
/-- Belady, with what one is behind the other. -/
theorem belady_slack {room : Nat} : ∀ {t C D : List Int} {m n s : Nat}, Opt room C t m → Run room D t n → C.Nodup → D.Nodup → C.length ≤ room → D.length ≤ room → (∀ T, cnt D (t.take T) ≤ cnt C (t.take T) + s) → m ≤ n + s := by
  intro t
  induction t with
  | nil => intro C D m n s hO hR _ _ _ _ _; cases hO; omega
  | cons k t ih =>
    intro C D m n s hO hR hC hD lC lD hc
    have hc' : ∀ T, (if k ∈ D then 1 else 0) + rest D k (t.take T) ≤ (if k ∈ C then 1 else 0) + rest C k (t.take T) + s := fun T => by
      have := hc (T + 1)
      rw [List.take_succ_cons, cnt_cons _ hC, cnt_cons _ hD] at this
      omega
    -- behind: what both have then, compared
    have fin : ∀ {C' D' : List Int} {m' n' s' : Nat}, Opt room C' t m' → Run room D' t n' → C'.Nodup → D'.Nodup → C'.length ≤ room → D'.length ≤ room → k ∈ C' → k ∈ D' → (∀ T, rest D' k (t.take T) ≤ rest C' k (t.take T) + s') → m' ≤ n' + s' := fun a b c d e f g h i => ih a b c d e f fun T => by
      rw [cnt_in _ d h, cnt_in _ c g]; have := i T; omega
    have h0 : rest D k (t.take 0) = 0 ∧ rest C k (t.take 0) = 0 := by simp [rest]
    have h00 := hc' 0
    -- what the other has then
    obtain ⟨D', n', hR', dD', lD', kD', sD', hn⟩ : ∃ D' n', Run room D' t n' ∧ D'.Nodup ∧ D'.length ≤ room ∧ k ∈ D' ∧ (∀ x ∈ D', x = k ∨ x ∈ D) ∧ n = n' + (if k ∈ D then 0 else 1) := by
      cases hR with
      | hit a b c d e f => exact ⟨_, _, f, b, c, d, fun x hx => .inr (e x hx), by simp [a]⟩
      | miss a b c d e f => exact ⟨_, _, f, b, c, d, e, by simp [a]⟩
    have hDr : ∀ T, rest D' k (t.take T) ≤ rest D k (t.take T) := fun T => rest_le _ dD' sD'
    have hDl : ∀ T, rest D' k (t.take T) + 1 ≤ room := fun T => Nat.le_trans (rest_lt _ dD' kD') lD'
    cases hO with
    | hit a b c d =>
      have hCr : ∀ T, rest C k (t.take T) ≤ rest _ k (t.take T) := fun T => rest_le (t.take T) hC (fun x hx => .inr ((c x).2 hx))
      simp only [a, if_true] at hc' h00
      by_cases hk : k ∈ D
      · simp only [hk, if_true] at hn hc'
        have := fin (s' := s) d hR' b dD' (by rw [len_eq hC b c]; exact lC) lD' ((c k).2 a) kD' (fun T => by have := hc' T; have := hDr T; have := hCr T; omega)
        omega
      · simp only [hk, if_false] at hn hc'
        have := fin (s' := s + 1) d hR' b dD' (by rw [len_eq hC b c]; exact lC) lD' ((c k).2 a) kD' (fun T => by have := hc' T; have := hDr T; have := hCr T; omega)
        omega
    | add a b c d e =>
      have hCr : ∀ T, rest C k (t.take T) ≤ rest _ k (t.take T) := fun T => rest_le (t.take T) hC (fun x hx => .inr ((d x).2 (.inr hx)))
      simp only [a, if_false] at hc' h00
      have hl := len_add hC c a d
      by_cases hk : k ∈ D
      · simp only [hk, if_true] at hn hc' h00
        have := fin (s' := s - 1) e hR' c dD' (by omega) lD' ((d k).2 (.inl rfl)) kD' (fun T => by have := hc' T; have := hDr T; have := hCr T; omega)
        omega
      · simp only [hk, if_false] at hn hc'
        have := fin (s' := s) e hR' c dD' (by omega) lD' ((d k).2 (.inl rfl)) kD' (fun T => by have := hc' T; have := hDr T; have := hCr T; omega)
        omega
    | @evict _ C' _ f _ m' a b g far c d e =>
      have hl := len_evict hC c a g d
      have hkC := (d k).2 (.inl rfl)
      simp only [a, if_false] at hc' h00
      -- ahead of the next coming of what went: as before; behind it: all come
      have hCr : ∀ T, rest C k (t.take T) ≤ rest C' k (t.take T) ∨ rest C' k (t.take T) + 1 = room := fun T => by
        by_cases hf : f ∈ t.take T
        · right
          rw [rest_all c hkC (fun x hx hxk => far T hf x (((d x).1 hx).resolve_left hxk).1)]; omega
        · left
          refine nodup_le (hC.filter _) fun x hx => ?_
          simp only [List.mem_filter, decide_eq_true_eq] at hx ⊢
          exact ⟨(d x).2 (.inr ⟨hx.1, fun e => hf (e ▸ hx.2.2)⟩), hx.2⟩
      by_cases hk : k ∈ D
      · simp only [hk, if_true] at hn hc' h00
        have := fin (s' := s - 1) e hR' c dD' (by omega) lD' hkC kD' (fun T => by have := hc' T; have := hDr T; have := hDl T; rcases hCr T with h | h <;> omega)
        omega
      · simp only [hk, if_false] at hn hc'
        have := fin (s' := s) e hR' c dD' (by omega) lD' hkC kD' (fun T => by have := hc' T; have := hDr T; have := hDl T; rcases hCr T with h | h <;> omega)
        omega
theorem belady {room : Nat} {t : List Int} {m n : Nat} (h : Opt room [] t m) (hr : Run room [] t n) : m ≤ n :=
  belady_slack (s := 0) h hr List.nodup_nil List.nodup_nil (Nat.zero_le _) (Nat.zero_le _) (fun _ => Nat.le_refl _)
end Go.Sx.Belady
