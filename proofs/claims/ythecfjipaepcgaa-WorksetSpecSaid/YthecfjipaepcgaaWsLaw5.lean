/- Working sets: larger windows, and LRU. -/
import Derived.Test.YthecfjipaepcgaaWsLaw4
namespace Go.Sx.Ws
theorem win_sub {l : List Int} {a b : Int} (h : a ≤ b) (k : Nat) {x : Int} (hx : x ∈ win l a k) : x ∈ win l b k := by
  unfold win at *
  have e : k - a.toNat = (k - b.toNat) + (k - a.toNat - (k - b.toNat)) := by omega
  rw [e, ← List.drop_drop] at hx
  exact List.mem_of_mem_drop hx
theorem fc_mono {l : List Int} {a b : Int} (h : a ≤ b) : ∀ k, fc l b k ≤ fc l a k
  | 0 => Int.le_refl _
  | k + 1 => by
    have ih := fc_mono (l := l) h k
    rw [fc, fc]
    by_cases h2 : l.getD k 0 ∈ win l a k
    · rw [if_pos h2, if_pos (win_sub h k h2)]; omega
    · rw [if_neg h2]; split <;> omega
theorem grows {l : List Int} {a b : Int} (h1 : check l a = 0) (h2 : check l b = 0) (h : a ≤ b) : faults l b ≤ faults l a := by
  rw [faults, faults, if_pos h1, if_pos h2]; exact fc_mono h _
theorem same_err {l : List Int} {a b : Int} (h1 : check l a = 0) (h2 : check l b = 0) (i : Int) : setErr l i a = setErr l i b := by
  obtain ⟨t, o1, _⟩ := chk_ok h1
  obtain ⟨_, o2, _⟩ := chk_ok h2
  rw [setErr, setErr, if_pos t, if_pos t, o1, o2]
theorem err_ok {l : List Int} {i w : Int} (h : setErr l i w = 0) : Lru.trace l = 0 ∧ (0 ≤ i ∧ i < (l.length : Int)) ∧ okWin w = true ∧ setR l i w = set l w i.toNat := by
  unfold setErr at h
  split at h
  · rename_i t
    split at h
    · rename_i q; exact ⟨t, ⟨q.1, q.2.1⟩, q.2.2, (set3 t q).2⟩
    · cases h
  · rename_i t; exact absurd h t
theorem set_wide {l : List Int} {w : Int} (h1 : 1 ≤ w) {i : Nat} (hi : i < l.length) : ((set l w i).length : Int) ≤ w := by
  rw [set, sortK_len]; have := mapAt_len h1 (l := l) (k := i + 1) (by omega); have := win_len2 l w (i + 1); omega
theorem set_has {l : List Int} {w : Int} (h1 : 1 ≤ w) {i : Nat} (hi : i < l.length) : l[i] ∈ set l w i :=
  (set_mem h1 hi _).2 ((win_mem (by omega)).2 ⟨i, hi, by omega, by omega, by omega, rfl⟩)
/-- what WorksetGrows asks behind its tests -/
theorem grows_law {l : List Int} {i a b : Int} (h1 : setErr l i a = 0) (h2 : setErr l i b = 0) (h : a ≤ b) (hi : i.toNat < l.length) :
    (0 ≤ i ∧ i < (l.length : Int)) ∧ ((setR l i a).length : Int) ≤ a ∧ ((setR l i b).length : Int) ≤ b ∧ Ref.hasInt (setR l i a) l[i.toNat] = true ∧ ∀ x ∈ setR l i a, Ref.hasInt (setR l i b) x = true := by
  obtain ⟨_, e2, e3, e4⟩ := err_ok h1
  obtain ⟨_, _, f3, f4⟩ := err_ok h2
  have ha := okWin_bd e3
  have hb := okWin_bd f3
  rw [e4, f4]
  refine ⟨e2, set_wide ha.1 hi, set_wide hb.1 hi, by simpa [Ref.hasInt] using set_has ha.1 hi, fun x hx => ?_⟩
  have := (set_mem hb.1 hi x).2 (win_sub h _ ((set_mem ha.1 hi x).1 hx))
  simpa [Ref.hasInt] using this
theorem lru_ok {l : List Int} {w : Int} (h : check l w = 0) (h40 : w ≤ 40) (n : Nat) : Lru.runErr ⟨w, []⟩ (l.take n) = 0 := by
  obtain ⟨t, o, _⟩ := chk_ok h
  have hw := okWin_bd o
  have hr : Lru.okRoom w = true := by simp [Lru.okRoom]; omega
  have hc : Lru.check ⟨w, []⟩ = 0 := by
    have hk : Lru.keys [] = 0 := by decide
    simp [Lru.check, hr, hk]; omega
  obtain ⟨t1, t2⟩ := Lru.trace_ok.1 t
  have ht : Lru.trace (l.take n) = 0 := Lru.trace_ok.2 ⟨by simp; omega, fun x hx => t2 x (List.mem_of_mem_take hx)⟩
  rw [Lru.runErr, if_pos hc]; exact ht
theorem lru_ok2 {l : List Int} {w : Int} (h : check l w = 0) (h40 : w ≤ 40) : Lru.runErr ⟨w, []⟩ l = 0 := by
  have := lru_ok h h40 l.length; rwa [List.take_length] at this
theorem room_keys {l : List Int} {w i : Int} (h : check l w = 0) (h40 : w ≤ 40) (h0 : 0 ≤ i) (hi : i < (l.length : Int)) : setErr l i w = 0 ∧ ∀ x ∈ setR l i w, Ref.hasInt (Lru.run ⟨w, []⟩ (l.take (i + 1).toNat)).1.keys x = true := by
  obtain ⟨t, o, _⟩ := chk_ok h
  have hw := okWin_bd o
  have hs := set3 t ⟨h0, hi, o⟩
  refine ⟨hs.1, fun x hx => ?_⟩
  rw [hs.2] at hx
  have h2 := (set_mem hw.1 (by omega) x).1 hx
  obtain ⟨_, _, a3⟩ := Lru.run_ok (lru_ok h h40 (i + 1).toNat)
  obtain ⟨room, rfl⟩ : ∃ room : Nat, w = (room : Int) := ⟨w.toNat, by omega⟩
  have e : i.toNat + 1 = (i + 1).toNat := by omega
  rw [e] at h2
  have h3 := lru_holds (l := l) (room := room) (i + 1).toNat (by omega) room (Nat.le_refl _) x (by simpa [win] using h2)
  have h4 := List.mem_of_mem_take h3
  rw [a3]; simpa [Ref.hasInt] using h4
end Go.Sx.Ws
