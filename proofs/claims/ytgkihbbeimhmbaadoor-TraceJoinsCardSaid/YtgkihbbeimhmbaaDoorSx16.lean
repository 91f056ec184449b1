/- More rules: quotients within bounds. -/
import Derived.Test.YtgkihbbeimhmbaaDoorSx15
namespace Go.Sx
open Go.RowKit
section
variable {P : Program} {n : Nat} {w0 : World} {r : Option Nat} {ds : List Deferred} {Q : Exit → Act → World → Prop} {F F' : List (Nat × Value)} {H H' : List Ent} {ops : Array Oper}
variable {ty : TypeId} {pos : String} {after : Array Edge} {guard : Option (Nat × Bool)} {dst : Option Tmp} {rest : List Oper} {d : Nat} {x y : Operand} {tx tY : TypeId}
theorem p_quob {p q : Int} (hx : ev F x = some (.int .i64 p)) (hy : ev F y = some (.int .i64 q)) (h0 : q ≠ 0) (hb : -9223372036854775808 ≤ p.tdiv q ∧ p.tdiv q ≤ 9223372036854775807) : Pure ds P n w0 ⟨dst, .binOp .quo tx x y tY, ty, pos, after, guard⟩ F H (.int .i64 (p.tdiv q)) := by
  have := p_quo (P := P) (n := n) (w0 := w0) (ds := ds) (dst := dst) (tx := tx) (tY := tY) (ty := ty) (pos := pos) (after := after) (guard := guard) (H := H) hx hy h0
  rwa [wrap_i64 hb] at this
end
end Go.Sx
