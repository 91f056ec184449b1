/- A variable that holds a map or nil; the clone of a map. -/
import Derived.Test.YthecfjipaepcgaaSx24
namespace Go.Sx
open Go.RowKit
section
variable {κ ν : Type} [DecidableEq κ]
variable {P : Program} {n : Nat} {w0 : World} {r : Option Nat} {ds : List Deferred} {Q : Exit → Act → World → Prop} {F F' : List (Nat × Value)} {H H' : List Ent} {ops : Array Oper}
variable {K : KTy κ} {ve : ν → Value} {m : List (κ × ν)}
/-- the entry of a map that may be nil -/
def mapO (K : KTy κ) (ve : ν → Value) (b : Option Nat) (m : List (κ × ν)) : Ent :=
  match b with
  | none => ⟨fun _ => False, fun _ => True⟩
  | some B => mapE K ve B m
theorem HeapIs.mapNil {w : World} (h : HeapIs w0 H w) (K : KTy κ) (ve : ν → Value) (m : List (κ × ν)) : HeapIs w0 (mapO K ve none m :: H) w :=
  ⟨h.same, h.size, fun e he => by
    rcases List.mem_cons.1 he with rfl | he
    · exact ⟨fun _ _ _ _ => trivial, fun b hb => hb.elim, trivial⟩
    · exact h.good e he, List.pairwise_cons.2 ⟨fun e _ b hb => hb.elim, h.apart⟩⟩
theorem c_mapNil (K : KTy κ) (ve : ν → Value) (m : List (κ × ν)) {c : Code} (h : SC r ds P n w0 Q c F (mapO K ve none m :: H)) : SC r ds P n w0 Q c F H := fun a w ha hw => h a w ha (hw.mapNil K ve m)
theorem HeapIs.newMap {w : World} (h : HeapIs w0 H w) {es : Array MapEntry} {c : Nat} (h2 : es.toList.map (fun e => (e.key, e.val)) = m.map (fun p => (K.enc p.1, ve p.2))) (h3 : Born es.toList c) : HeapIs w0 (mapE K ve w.heap.size m :: H) (w.alloc (.map es c)) :=
  h.push (.map es c) (fun w1 w2 ha hA => MapIs.agree ha hA) ⟨es, c, World.alloc_heap_new w _, h2, h3⟩
theorem fnX_clone {f : FuncId} {B : Nat} (hcS : ∀ (es : Array MapEntry) (clock : Nat) (w : World), w.heap[B]? = some (.map es clock) → Calls P f #[.map (some B)] w fun e w' => e = .returned (.map (some w.heap.size)) ∧ w' = w.alloc (.map es clock)) :
    FnX P f [.map (some B)] [] (fun w => MapIs K ve B m w) Nat (fun p => .map (some p)) (fun p => [mapE K ve p m]) := by
  intro w hw ⟨es, c, h1, h2, h3⟩
  refine (hcS es c w h1).mono ?_
  rintro e w' ⟨rfl, rfl⟩
  exact ⟨w.heap.size, rfl, (hw.newMap h2 h3).pick (H' := [outer w [], mapE K ve w.heap.size m]) [1, 0] (by decide) rfl⟩
end
end Go.Sx
