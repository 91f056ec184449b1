/- What the bound of an Upto statement gives. -/
import Derived.Test.YtnmbkopnopaigaaRows
import Derived.Test.YtnmbkopnopaigaaSx20
namespace Go.Proofs.Ytnmbkopnopaigaa
open Go.Sx
namespace bulks
theorem one_le {H : Type} (d : DataW H) : 1 ≤ Rows.uptoBulk d := by
 cases d with
 | lit l => cases l <;> simp [Rows.uptoBulk]
 | nil => simp [Rows.uptoBulk]
 | ptr d => simp [Rows.uptoBulk]
 | slice elems spare => simp [Rows.uptoBulk]
 | agg parts => simp [Rows.uptoBulk]
 | iface t d => simp [Rows.uptoBulk]
 | map entries => simp [Rows.uptoBulk]
 | held h => simp [Rows.uptoBulk]
theorem part_le {H : Type} {d : DataW H} {l : List (DataW H)} (h : d ∈ l) : Rows.uptoBulk d ≤ Rows.uptoBulkAll l := by
 induction l with
 | nil => cases h
 | cons x r ih =>
  simp only [Rows.uptoBulkAll]
  cases List.mem_cons.1 h with
  | inl e => subst e; omega
  | inr e => have := ih e; omega
theorem length_le {H : Type} (l : List (DataW H)) : l.length ≤ Rows.uptoBulkAll l := by
 induction l with
 | nil => simp [Rows.uptoBulkAll]
 | cons x r ih => have := one_le x; simp only [Rows.uptoBulkAll, List.length_cons]; omega
theorem elems_le {H : Type} {d : DataW H} {n : Nat} (h : ElemsN d n) : n ≤ Rows.uptoBulk d := by
 rcases h with ⟨elems, spare, rfl, rfl⟩ | rfl
 ·have := length_le elems; simp only [Rows.uptoBulk]; omega
 ·omega
theorem slice_len {H : Type} {d : DataW H} {n : Nat} {l : List (DataW H)} (h : ElemsN d n) (hd : d ∈ l) (hk : Rows.uptoSmall H l = true) : n ≤ 1048576 := by
 have h1 : Rows.uptoBulkAll l ≤ 1048576 := of_decide_eq_true hk
 have h2 := part_le hd; have h3 := elems_le h; omega
theorem str_len {H : Type} {s : ByteArray} {l : List (DataW H)} (hd : DataW.lit (.string s.data.toList) ∈ l) (hk : Rows.uptoSmall H l = true) : s.size ≤ 1048576 := by
 have h1 : Rows.uptoBulkAll l ≤ 1048576 := of_decide_eq_true hk
 have h2 := part_le hd
 simp only [Rows.uptoBulk] at h2
 have e : s.data.toList.length = s.size := by rw [Array.length_toList]; rfl
 omega
end bulks
end Go.Proofs.Ytnmbkopnopaigaa
