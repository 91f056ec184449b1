/- How long a slice that is read is, out of its reading; laws whose arguments are not too many. -/
import Derived.Test.YtgkihbbeimhmbaaDoorSx19
import Derived.Test.YtgkihbbeimhmbaaDoorSx18b
import Derived.JoinedCond
import Derived.Deep.CondSized
namespace Go.Sx
open Go.ChangeShapes Go.WideShapes Go.ChangeAt Go.RowKit
section
variable {P : Program} {H : Type} {enc : TypeId × Value → H} {w : World}
/-- so many elements are read -/
def ElemsN (d : DataW H) (n : Nat) : Prop := (∃ elems spare, d = .slice elems spare ∧ n = elems.length) ∨ n = 0
theorem rd_elems {t e : TypeId} {a : Option Addr} {len cap : Nat} {d : DataW H} {ps : List MemPlace} (hu : P.underlying t = some (.slice e)) (h : DataW.Trod enc P w 0 (fun _ => true) true t (.slice a len cap) d ps) : ElemsN d len := by
  obtain ⟨fuel, hf⟩ := h
  rcases DataW.trod_slice hu hf with ⟨h0, _⟩ | ⟨x, len', cap', elems, rest, n, _, hcs, hx, hb, hl, hm, hlen, hel, hsp, _⟩
  · simp only [Value.cells, List.cons.injEq, Value.slice.injEq, and_true] at h0
    exact .inr h0.2.1
  · simp only [Value.cells, List.cons.injEq, Value.slice.injEq, and_true] at hcs
    obtain ⟨_, rfl, rfl⟩ := hcs
    simp only [Prod.mk.injEq] at hx
    obtain ⟨rfl, _⟩ := hx
    exact .inl ⟨elems.map (·.1), rest.map (·.1), rfl, by rw [List.length_map]; exact hlen.symm⟩
end
end Go.Sx
