/- LFU: what LfuSpec's end asks. -/
import Derived.Test.YtagbihjkdejdjaaLfLaw3
namespace Go.Sx.Lfu
theorem acc_num (c : DUses) (key : Int) : (check c ≠ 0 ∧ access c key = (zero, false, 0) ∧ accessErr c key = check c) ∨ (check c = 0 ∧ (key < 0 ∨ 1048576 < key) ∧ access c key = (zero, false, 0) ∧ accessErr c key = 3) ∨ (check c = 0 ∧ (0 ≤ key ∧ key ≤ 1048576) ∧ access c key = touch c key ∧ accessErr c key = 0) := by
  rcases acc_cases c key with h | ⟨a, b, d⟩ | ⟨a, b, d⟩
  · exact .inl h
  · refine .inr (.inl ⟨a, ?_, d⟩); simp [Lru.okKey] at b; omega
  · exact .inr (.inr ⟨a, Lru.key_ok b, d⟩)
theorem vic_cases (u : DUses) : (check u ≠ 0 ∧ victim u = 0 ∧ victimErr u = check u) ∨ (check u = 0 ∧ u.list.length = 0 ∧ victim u = 0 ∧ victimErr u = 5) ∨ (check u = 0 ∧ 0 < u.list.length ∧ victim u = (u.list.getD (least u.list) default).key ∧ victimErr u = 0) := by
  by_cases h : check u = 0
  · by_cases h2 : u.list.length = 0
    · obtain ⟨a, b⟩ := vic2 h h2; exact .inr (.inl ⟨h, h2, a.symm, b.symm⟩)
    · have e1 : victimErr u = 0 := by unfold victimErr; rw [if_pos h, if_neg h2]
      exact .inr (.inr ⟨h, by omega, by unfold victim; rw [if_pos e1], e1⟩)
  · obtain ⟨a, b⟩ := vic1 h; exact .inl ⟨h, a.symm, b.symm⟩
theorem age_of {a u : DUses} {l : List DUse} (h : a.room = u.room) (h2 : a.list = l) : a = ⟨u.room, l⟩ := by cases a; simp_all
end Go.Sx.Lfu
