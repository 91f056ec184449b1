/- A field of a struct that is a value. -/
import Derived.Test.YtgkihbbeimhmbaaDoorSx17
namespace Go.Sx
open Go.RowKit
def fieldCell (P : Program) (s : TypeId) (f : Nat) : Option Nat :=
  match P.underlying s with
  | some (.struct fs) => match fs[f]? with
    | some g => if shp P g.type = some none then some g.offset else none
    | none => none
  | _ => none
section
variable {P : Program} {n : Nat} {w0 : World} {ds : List Deferred} {F : List (Nat × Value)} {H : List Ent}
variable {ty : TypeId} {pos : String} {after : Array Edge} {guard : Option (Nat × Bool)} {dst : Option Tmp} {x : Operand}
theorem run_field {s : TypeId} {f off : Nat} {vs : List Value} {v : Value} (hf : fieldCell P s f = some off) (hv : vs[off]? = some v) (w : World) : (Instr.field s (.agg vs.toArray) f).run P w = .ok v w := by
  unfold fieldCell at hf
  split at hf
  · rename_i fs hu
    split at hf
    · rename_i g hg
      split at hf
      · rename_i hs
        simp only [Option.some.injEq] at hf
        subst hf
        simp [Instr.field, run_underlying hu, hg, asAgg, part, run_isAgg_false hs, hv]
      · cases hf
    · cases hf
  · cases hf
theorem p_field {s : TypeId} {f off : Nat} {vs : List Value} {v : Value} (hx : ev F x = some (.agg vs.toArray)) (hf : fieldCell P s f = some off) (hv : vs[off]? = some v) : Pure ds P n w0 ⟨dst, .field s x f, ty, pos, after, guard⟩ F H v := fun a w ha _ => by
  simp [execOp, ha.eval hx, run_field hf hv]
end
end Go.Sx
