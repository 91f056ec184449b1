/- Shorter names of the steps that stand most often in a long walk. -/
import Derived.Test.YtgkihbbeimhmbaaDoorSx18
namespace Go.Sx
open Go.RowKit
section
variable {P : Program} {n : Nat} {w0 : World} {r : Option Nat} {ds : List Deferred} {Q : Exit → Act → World → Prop} {F : List (Nat × Value)} {H : List Ent} {ops : Array Oper}
variable {ty : TypeId} {pos : String} {after : Array Edge} {rest : List Oper} {d : Nat} {v : Value} {c x y : Operand}
theorem o_mv (hx : ev F x = some v) (hn : Nat.blt d n = true) (h : SO r ds P n w0 ops Q rest ((d, v) :: F) H) : SO r ds P n w0 ops Q (⟨some d, .move x, ty, pos, after, none⟩ :: rest) F H := o_pure (p_move hx) rfl rfl hn h
theorem o_pt (hc : ev F c = some (.bool true)) (hx : ev F x = some v) (hn : Nat.blt d n = true) (h : SO r ds P n w0 ops Q rest ((d, v) :: F) H) : SO r ds P n w0 ops Q (⟨some d, .pick c x y, ty, pos, after, none⟩ :: rest) F H := o_pure (p_pick_true hc hx) rfl rfl hn h
theorem o_pf (hc : ev F c = some (.bool false)) (hy : ev F y = some v) (hn : Nat.blt d n = true) (h : SO r ds P n w0 ops Q rest ((d, v) :: F) H) : SO r ds P n w0 ops Q (⟨some d, .pick c x y, ty, pos, after, none⟩ :: rest) F H := o_pure (p_pick_false hc hy) rfl rfl hn h
end
end Go.Sx
