/- Strings: sums and comparisons. -/
import Derived.Test.YtgkihbbeimhmbaaDoorSx10
namespace Go.Sx
open Go.RowKit
section
variable {P : Program} {n : Nat} {w0 : World} {r : Option Nat} {ds : List Deferred} {F : List (Nat × Value)} {H : List Ent}
variable {ty : TypeId} {pos : String} {after : Array Edge} {guard : Option (Nat × Bool)} {dst : Option Tmp} {x y : Operand} {tx tY : TypeId} {s t : ByteArray}
theorem bytes_beq : (s.toList == t.toList) = decide (s = t) := by
  rw [Bool.eq_iff_iff, beq_iff_eq, decide_eq_true_eq, ByteArray.toList_eq, ByteArray.toList_eq]
  exact ⟨fun h => ByteArray.ext (Array.ext' h), fun h => by rw [h]⟩
theorem p_addStr (hx : ev F x = some (.string s)) (hy : ev F y = some (.string t)) (hb : s.size + t.size ≤ 9223372036854775807) : Pure ds P n w0 ⟨dst, .binOp .add tx x y tY, ty, pos, after, guard⟩ F H (.string (s ++ t)) := fun a w ha _ => by
  have h : ¬ (((s.size + t.size : Nat) : Int) > IntKind.i64.max) := by
    have : IntKind.i64.max = 9223372036854775807 := rfl
    omega
  have h2 : ¬ (9223372036854775807 < (s.size : Int) + (t.size : Int)) := by omega
  simp [execOp, ha.eval hx, ha.eval hy, binOp, Op.stringOp, eqGuard, h2]
theorem p_eqStr (hx : ev F x = some (.string s)) (hy : ev F y = some (.string t)) : Pure ds P n w0 ⟨dst, .binOp .eql tx x y tY, ty, pos, after, guard⟩ F H (.bool (decide (s = t))) := fun a w ha _ => by
  have h := bytes_beq (s := s) (t := t)
  simp [execOp, ha.eval hx, ha.eval hy, binOp, Op.stringOp, eqGuard, h]
theorem p_neStr (hx : ev F x = some (.string s)) (hy : ev F y = some (.string t)) : Pure ds P n w0 ⟨dst, .binOp .neq tx x y tY, ty, pos, after, guard⟩ F H (.bool (!decide (s = t))) := fun a w ha _ => by
  have h := bytes_beq (s := s) (t := t)
  simp [execOp, ha.eval hx, ha.eval hy, binOp, Op.stringOp, eqGuard, h]
end
end Go.Sx
