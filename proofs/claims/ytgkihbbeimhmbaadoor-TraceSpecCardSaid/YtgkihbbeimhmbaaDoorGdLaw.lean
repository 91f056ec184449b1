/- Elements by number; numbers compared. -/
import Derived.Test.YtgkihbbeimhmbaaDoorSx12M17
namespace Go.Sx
theorem getd_at {α : Type} {L : List α} {i : Nat} (h : i < L.length) (d : α) : L[i] = L.getD i d := by rw [List.getD_eq_getElem?_getD, List.getElem?_eq_getElem h]; rfl
def cmpI (x y : Int) : Int := if x < y then -1 else if y < x then 1 else 0
theorem cmpI_neg {x y : Int} : cmpI x y < 0 ↔ x < y := by unfold cmpI; split; simp [*]; split <;> simp <;> omega
theorem cmpI_zero {x y : Int} : cmpI x y = 0 ↔ x = y := by unfold cmpI; split; simp; omega; split <;> simp <;> omega
theorem cmp_lt {x y : Int} (h : x < y) : -1 = cmpI x y := by unfold cmpI; rw [if_pos h]
theorem cmp_gt {x y : Int} (h1 : y ≤ x) (h : y < x) : 1 = cmpI x y := by unfold cmpI; rw [if_neg (by omega), if_pos h]
theorem cmp_eq {x y : Int} (h1 : y ≤ x) (h2 : x ≤ y) : 0 = cmpI x y := by unfold cmpI; rw [if_neg (by omega), if_neg (by omega)]
end Go.Sx
