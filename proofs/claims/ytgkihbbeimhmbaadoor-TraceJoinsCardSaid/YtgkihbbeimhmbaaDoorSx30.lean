/- Regions in functions that range over functions: nothing panics. -/
import Derived.Test.YtgkihbbeimhmbaaDoorSx28
namespace Go.Sx
open Go
def NoPanic (K : Act → World → Prop) (Q : Exit → Act → World → Prop) : Exit → Act → World → Prop
  | .normal, a, w => K a w
  | .panic _, _, _ => False
  | .exit i, a, w => Q (.exit i) a w
  | .goto i, a, w => Q (.goto i) a w
  | .ret, a, w => Q .ret a w
  | .outgrown, a, w => Q .outgrown a w
section
variable {P : Program} {n : Nat} {w0 : World} {r : Option Nat} {ds : List Deferred} {Q : Exit → Act → World → Prop} {F : List (Nat × Value)} {H : List Ent}
/-- What is known behind c, where c does not panic. -/
theorem c_cutN {c : Code} {G : Type} (FE : G → List (Nat × Value)) (HE : G → List Ent) (hr_ : ∀ K : Act → World → Prop, (∀ g a w, Ok n ds (FE g) a → HeapIs w0 (HE g) w → K a w) → SC r ds P n w0 (NoPanic K Q) c F H) (k : ∀ g, SQ ds n w0 Q .normal (FE g) (HE g)) : SC r ds P n w0 Q c F H := fun a w ha hw =>
  wpC_mono (fun e a' w' h => by
    cases e with
    | normal => obtain ⟨g, h1, h2⟩ := h; exact k g a' w' h1 h2
    | panic c => exact h.elim
    | _ => exact h) (hr_ (fun a' w' => ∃ g, Ok n ds (FE g) a' ∧ HeapIs w0 (HE g) w') (fun g a' w' h1 h2 => ⟨g, h1, h2⟩) a w ha hw)
theorem q_kontN {G : Type} {FE : G → List (Nat × Value)} {HE : G → List Ent} {K : Act → World → Prop} (hK : ∀ g a w, Ok n ds (FE g) a → HeapIs w0 (HE g) w → K a w) (g : G) (hF : Sub F (FE g)) (hH : ∀ w, HeapIs w0 H w → HeapIs w0 (HE g) w) : SQ ds n w0 (NoPanic K Q) .normal F H :=
  fun _ w ha hw => hK g _ w (ha.sub hF) (hH w hw)
end
end Go.Sx
namespace Go.Sx
open Go
theorem p_eqv {P : Program} {n : Nat} {w0 : World} {ds : List Deferred} {o : Oper} {F : List (Nat × Value)} {H : List Ent} {u v : Value} (e : u = v) (h : Pure ds P n w0 o F H u) : Pure ds P n w0 o F H v := e ▸ h
end Go.Sx
