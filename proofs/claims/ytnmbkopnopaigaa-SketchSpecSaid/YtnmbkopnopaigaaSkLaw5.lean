/- Sketches: more for the specification. -/
import Derived.Test.YtnmbkopnopaigaaSkLaw4
namespace Go.Sx.Sk
theorem J2.mk2 {a b bo hf : DSketch} {u o t : Int} (ht : Sk.total a = t) (h3 : o = halfErr a ∧ (o = 0 → hf = halve a)) (h4 : u = mrgErr a b ∧ (u = 0 → bo = merge a b)) : J2 a b u o t bo hf :=
  ⟨h4.1, h3.1, ht.symm, h4.2, h3.2⟩
theorem J1.fine2 {s ad : DSketch} {key : ByteArray} {many about : Int} {r : Nat} (h : AI s key many ad about r) (hk : keyErr s key = 0) (hr : s.counts.length ≤ r) (hm : okM many) (hf : fits ad.counts = true) : J1 s key many (keyErr s key) about ad := by
  rw [hk]; exact J1.fine h hk hr hm hf
theorem PR.vals {rows LL : List (List Int)} {r : Nat} (h : PR halfF rows LL r 0) (hv : Vals rows) : Vals LL := fun l hl => by
  obtain ⟨q, hq, rfl⟩ := List.getElem_of_mem hl
  have hq' : q < rows.length := by rw [← h.len]; exact hq
  obtain ⟨h1, h2⟩ := hv.row hq'
  rw [← getD_of (d := []) hq]
  refine ⟨by rw [h.rlen]; exact h1, fun n hn => ?_⟩
  obtain ⟨i, hi, rfl⟩ := List.getElem_of_mem hn
  rw [← getD_of (d := default) hi, h.val]
  have hi' : i < (rows.getD q []).length := by rw [← h.rlen]; exact hi
  have h3 := el_bd h2 hi'
  split
  · have e : halfF q i ((rows.getD q []).getD i default) = (rows.getD q []).getD i default / 2 := Int.tdiv_eq_ediv_of_nonneg h3.1
    rw [e]; omega
  · exact h3
theorem PR.cur {f : Int → Int → Int → Int} {s : DSketch} {LL : List (List Int)} {r k : Nat} (h : PR f s.counts LL r k) (hk : k < (s.counts.getD r []).length) (hs : Ok s) : 0 ≤ (LL.getD r []).getD k default ∧ (LL.getD r []).getD k default ≤ 1099511627776 := by
  rw [h.val, if_neg (by omega)]
  by_cases hr : r < s.counts.length
  · exact hs.vl hr hk
  · rw [List.getD_eq_getElem?_getD (l := s.counts), List.getElem?_eq_none (by omega)] at hk
    exact absurd hk (Nat.not_lt_zero _)
theorem mrg_z {b : List (List Int)} {r k : Nat} {n : Int} (h : 0 ≤ n + (b.getD r []).getD k default ∧ n + (b.getD r []).getD k default ≤ 4398046511104) : n + (b.getD r []).getD k default = mrgF b r k n := (mrgF_val (b := b) (r := r) (i := k) h.1 h.2).symm
end Go.Sx.Sk
