/- Working sets and LRU. -/
import Derived.Test.YthecfjipaepcgaaWsPure
namespace Go.Sx.Ws
theorem erase_take {R : List Int} {a x : Int} (hx : x ≠ a) : ∀ {j : Nat}, x ∈ R.take j → x ∈ (R.erase a).take j := by
  induction R with
  | nil => intro j h; simp at h
  | cons y R ih =>
    intro j h
    cases j with
    | zero => simp at h
    | succ j =>
      rw [List.take_succ_cons] at h
      rw [List.erase_cons]
      split
      · rename_i e
        have hy : y = a := by simpa using e
        rcases List.mem_cons.1 h with h | h
        · exact absurd (h.trans hy) hx
        · have hs : R.take j ⊆ R.take (j + 1) := (List.take_prefix_take_left (by omega)).subset
          exact hs h
      · rw [List.take_succ_cons]
        rcases List.mem_cons.1 h with h | h
        · rw [h]; simp
        · exact List.mem_cons_of_mem _ (ih h)
/-- The last j accesses lie among the first j keys. -/
theorem lru_holds {l : List Int} {room : Nat} : ∀ k, k ≤ l.length → ∀ j, j ≤ room → ∀ x ∈ (l.take k).drop (k - j), x ∈ (Lru.runGo ⟨(room : Int), []⟩ 0 (l.take k)).1.keys.take j
  | 0, _, j, _, x, hx => by simp at hx
  | k + 1, hk, j, hj, x, hx => by
    have ih := lru_holds (l := l) (room := room) k (by omega)
    have hs : l.take (k + 1) = l.take k ++ [l[k]] := List.take_succ_eq_append_getElem (by omega)
    rw [hs, Lru.runGo_snoc, Lru.touch]
    rw [hs] at hx
    have hr : (Lru.runGo ⟨(room : Int), []⟩ 0 (l.take k)).1.room.toNat = room := by rw [Lru.runGo_room]; simp
    simp only [hr, Lru.front]
    rw [List.take_take, Nat.min_eq_left hj]
    cases j with
    | zero =>
      rw [Nat.sub_zero, List.drop_eq_nil_of_le (by simp; omega)] at hx; cases hx
    | succ j =>
      rw [List.take_succ_cons]
      by_cases e : x = l[k]
      · rw [e]; simp
      · refine List.mem_cons_of_mem _ (erase_take e ?_)
        refine ih j (by omega) x ?_
        rw [show k + 1 - (j + 1) = k - j by omega, List.drop_append_of_le_length (by simp; omega)] at hx
        rcases List.mem_append.1 hx with h | h
        · exact h
        · exact absurd (List.mem_singleton.1 h) e
theorem lru_faults {l : List Int} {room : Nat} : ∀ k, k ≤ l.length → (k : Int) - (Lru.runGo ⟨(room : Int), []⟩ 0 (l.take k)).2 ≤ fc l room k
  | 0, _ => by simp [Lru.runGo, fc]
  | k + 1, hk => by
    have ih := lru_faults (l := l) (room := room) k (by omega)
    have hh := lru_holds (l := l) (room := room) k (by omega) room (Nat.le_refl _) l[k]
    have hs : l.take (k + 1) = l.take k ++ [l[k]] := List.take_succ_eq_append_getElem (by omega)
    rw [hs, Lru.runGo_append, fc, getD_at (by omega), Lru.runGo, Lru.runGo]
    have ht : (Lru.touch (Lru.runGo ⟨(room : Int), []⟩ 0 (l.take k)).1 l[k]).2.1 = decide (l[k] ∈ (Lru.runGo ⟨(room : Int), []⟩ 0 (l.take k)).1.keys) := rfl
    rw [ht]
    by_cases hw : l[k] ∈ win l (room : Int) k
    · have h2 := List.mem_of_mem_take (hh (by simpa [win] using hw))
      rw [if_pos (by simpa using h2), if_pos hw]; push_cast; omega
    · rw [if_neg hw]; split <;> push_cast <;> omega
/-- LRU with as much room as the window has no more misses than there are faults. -/
theorem room_law {l : List Int} {w : Int} (h : check l w = 0) (h2 : Lru.runErr ⟨w, []⟩ l = 0) : (l.length : Int) - (Lru.run ⟨w, []⟩ l).2 ≤ faults l w ∧ 0 ≤ (Lru.run ⟨w, []⟩ l).2 ∧ (Lru.run ⟨w, []⟩ l).2 ≤ 200 ∧ l.length ≤ 200 := by
  obtain ⟨a1, a2, a3⟩ := Lru.run_ok h2
  obtain ⟨b1, b2, b3⟩ := chk_ok h
  have hw := okWin_bd b2
  obtain ⟨room, rfl⟩ : ∃ room : Nat, w = (room : Int) := ⟨w.toNat, by omega⟩
  have h4 := lru_faults (l := l) (room := room) l.length (Nat.le_refl _)
  rw [List.take_length] at h4
  have h5 := Lru.run_n l ⟨(room : Int), []⟩
  rw [a3, faults, if_pos h]
  exact ⟨h4, h5.1, by omega, b3⟩
end Go.Sx.Ws
