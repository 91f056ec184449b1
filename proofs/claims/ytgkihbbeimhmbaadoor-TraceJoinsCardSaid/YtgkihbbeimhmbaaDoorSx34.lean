/- Parts of strings. -/
import Derived.Test.YtgkihbbeimhmbaaDoorSx33
import Derived.Laws.Strings2
import Derived.Laws.Slices
namespace Go.Sx
open Go.RowKit
section
variable {P : Program} {n : Nat} {w0 : World} {r : Option Nat} {ds : List Deferred} {F : List (Nat × Value)} {H : List Ent}
variable {ty : TypeId} {pos : String} {after : Array Edge} {guard : Option (Nat × Bool)} {dst : Option Tmp} {x y z : Operand} {t : TypeId} {s : ByteArray}
theorem run_sliceAtStr {lo hi mx : Option Value} (hu : P.underlying t = some .string) (w : World) : (Instr.sliceAt t (.string s) lo hi mx).run P w = (Instr.slice t (.string s) lo hi mx).run P w := by
  simp [Instr.sliceAt, run_underlying hu]
theorem p_sliceStrH {k : IntKind} {h : Int} (hx : ev F x = some (.string s)) (hy : ev F y = some (.int k h)) (hu : P.underlying t = some .string) (h0 : 0 ≤ h) (h1 : h ≤ (s.size : Int)) :
    Pure ds P n w0 ⟨dst, .slice t x none (some y) none, ty, pos, after, guard⟩ F H (.string (s.extract 0 h.toNat)) := fun a w ha _ => by
  simp [execOp, ha.eval hx, ha.eval hy, run_sliceAtStr hu, run_slice_string_h w t s hu k h h0 h1]
theorem p_sliceStrL {k : IntKind} {l : Int} (hx : ev F x = some (.string s)) (hy : ev F y = some (.int k l)) (hu : P.underlying t = some .string) (h0 : 0 ≤ l) (h1 : l ≤ (s.size : Int)) :
    Pure ds P n w0 ⟨dst, .slice t x (some y) none none, ty, pos, after, guard⟩ F H (.string (s.extract l.toNat s.size)) := fun a w ha _ => by
  simp [execOp, ha.eval hx, ha.eval hy, run_sliceAtStr hu, run_slice_string_l w t s hu k l h0 h1]
theorem p_sliceStrLH {k k2 : IntKind} {l h : Int} (hx : ev F x = some (.string s)) (hy : ev F y = some (.int k l)) (hz : ev F z = some (.int k2 h)) (hu : P.underlying t = some .string) (h0 : 0 ≤ l) (h1 : l ≤ h) (h2 : h ≤ (s.size : Int)) :
    Pure ds P n w0 ⟨dst, .slice t x (some y) (some z) none, ty, pos, after, guard⟩ F H (.string (s.extract l.toNat h.toNat)) := fun a w ha _ => by
  simp [execOp, ha.eval hx, ha.eval hy, ha.eval hz, run_sliceAtStr hu, run_slice_string w t s k k2 l h hu h0 h1 h2]
end
end Go.Sx
