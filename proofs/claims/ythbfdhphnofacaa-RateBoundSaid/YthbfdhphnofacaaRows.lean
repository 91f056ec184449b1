/-
  No cell of these rows narrows 'for every input' (looked for: loops, veiled, ifaces, maps, wideKeys, modest, calm, conditions, laid).
  DERIVED. THE GIVEN ROWS OF THIS SEAT. 12 by the template 'for every input the law returns true; each argument reads behind the call as it read before'; 0 by the template 'total and deterministic' (their statements: YthbfdhphnofacaaTotals.lean).
  GIVEN WITH THE SEED: the statements are not yours to turn. If you find one false, say at which input.
  Laid BY PROGRAM, IN A SANDBOX (cutbox-rows.mjs): the forced cells as the released guide's own fill.sh prints them over the translation 75d640cf95ee8d7b… (all of the seat's roots in one cut). By AI agents, Wed Nov 11 2026. No macro, syntax, notation, axiom, sorry.
-/
import Derived.Test.YthbfdhphnofacaaChecked
import GoSem.Claim
import GoSem.ClaimJoined
import GoSem.ClaimMapViews
import Derived.JoinedTies
import Derived.KernelRfl
namespace Go.Proofs.Ythbfdhphnofacaa
/- THE CELL 'sum', in the pinned program and in every row, IS THE sha256 OF THE DUMP (.gsa) THAT YthbfdhphnofacaaProg.lean LOADS. Nothing in Lean hashes anything: it is a label: what it is worth is what the hold of that sum in a sandbox is worth. -/
noncomputable def Try.pinned : Pinned := { name := "ythbfdhphnofacaa", sum := "75d640cf95ee8d7b8346a5b931d22c382d5c6eb0c6010da93f9ca34646c9b825", checked := Try.checked }
namespace Rows
def none {H : Type} : Left H := { results := [], args := [] }

/-- 'slopchestlaw.HashInverse': WHATEVER THE INPUT: true; the input reads as it did. -/
def hashInverseSpec : ChangeSpec := { name := "hashInverse", fn := fun _ => fun
  | [d1, d2] => { results := [.lit (.bool true)], args := [d1, d2] }
  | _ => none }
def hashInverseRow : OpenClaim := { program := "ythbfdhphnofacaa", sum := "75d640cf95ee8d7b8346a5b931d22c382d5c6eb0c6010da93f9ca34646c9b825", func := "slopchest/slopchestlaw.HashInverse", spec := "hashInverse", apart := false }
def HashInverseSaid : Prop := hashInverseRow.holds Try.pinned (OpenSpec.ofChange hashInverseSpec)

/-- ITS FALSE NEIGHBOUR: 'it returns false'. Refute it at one input. -/
def hashInverseWrong : ChangeSpec := { name := "hashInverse", fn := fun _ => fun
  | [d1, d2] => { results := [.lit (.bool false)], args := [d1, d2] }
  | _ => none }
def HashInverseWrongFalsely : Prop := hashInverseRow.holds Try.pinned (OpenSpec.ofChange hashInverseWrong)

/-- 'slopchestlaw.HashReduce': WHATEVER THE INPUT: true; the input reads as it did. -/
def hashReduceSpec : ChangeSpec := { name := "hashReduce", fn := fun _ => fun
  | [d1, d2, d3] => { results := [.lit (.bool true)], args := [d1, d2, d3] }
  | _ => none }
def hashReduceRow : OpenClaim := { program := "ythbfdhphnofacaa", sum := "75d640cf95ee8d7b8346a5b931d22c382d5c6eb0c6010da93f9ca34646c9b825", func := "slopchest/slopchestlaw.HashReduce", spec := "hashReduce", apart := false }
def HashReduceSaid : Prop := hashReduceRow.holds Try.pinned (OpenSpec.ofChange hashReduceSpec)

/-- ITS FALSE NEIGHBOUR: 'it returns false'. Refute it at one input. -/
def hashReduceWrong : ChangeSpec := { name := "hashReduce", fn := fun _ => fun
  | [d1, d2, d3] => { results := [.lit (.bool false)], args := [d1, d2, d3] }
  | _ => none }
def HashReduceWrongFalsely : Prop := hashReduceRow.holds Try.pinned (OpenSpec.ofChange hashReduceWrong)

/-- 'slopchestlaw.HashSuffix': WHATEVER THE INPUT: true; the input reads as it did. -/
def hashSuffixSpec : ChangeSpec := { name := "hashSuffix", fn := fun _ => fun
  | [d1, d2, d3] => { results := [.lit (.bool true)], args := [d1, d2, d3] }
  | _ => none }
def hashSuffixRow : OpenClaim := { program := "ythbfdhphnofacaa", sum := "75d640cf95ee8d7b8346a5b931d22c382d5c6eb0c6010da93f9ca34646c9b825", func := "slopchest/slopchestlaw.HashSuffix", spec := "hashSuffix", apart := false }
def HashSuffixSaid : Prop := hashSuffixRow.holds Try.pinned (OpenSpec.ofChange hashSuffixSpec)

/-- ITS FALSE NEIGHBOUR: 'it returns false'. Refute it at one input. -/
def hashSuffixWrong : ChangeSpec := { name := "hashSuffix", fn := fun _ => fun
  | [d1, d2, d3] => { results := [.lit (.bool false)], args := [d1, d2, d3] }
  | _ => none }
def HashSuffixWrongFalsely : Prop := hashSuffixRow.holds Try.pinned (OpenSpec.ofChange hashSuffixWrong)

/-- 'slopchestlaw.HashSpec': WHATEVER THE INPUT: true; the input reads as it did. -/
def hashSpecSpec : ChangeSpec := { name := "hashSpec", fn := fun _ => fun
  | [d1, d2, d3, d4] => { results := [.lit (.bool true)], args := [d1, d2, d3, d4] }
  | _ => none }
def hashSpecRow : OpenClaim := { program := "ythbfdhphnofacaa", sum := "75d640cf95ee8d7b8346a5b931d22c382d5c6eb0c6010da93f9ca34646c9b825", func := "slopchest/slopchestlaw.HashSpec", spec := "hashSpec", apart := false }
def HashSpecSaid : Prop := hashSpecRow.holds Try.pinned (OpenSpec.ofChange hashSpecSpec)

/-- ITS FALSE NEIGHBOUR: 'it returns false'. Refute it at one input. -/
def hashSpecWrong : ChangeSpec := { name := "hashSpec", fn := fun _ => fun
  | [d1, d2, d3, d4] => { results := [.lit (.bool false)], args := [d1, d2, d3, d4] }
  | _ => none }
def HashSpecWrongFalsely : Prop := hashSpecRow.holds Try.pinned (OpenSpec.ofChange hashSpecWrong)

/-- 'slopchestlaw.FlightSpec': WHATEVER THE INPUT: true; the input reads as it did. -/
def flightSpecSpec : ChangeSpec := { name := "flightSpec", fn := fun _ => fun
  | [d1, d2] => { results := [.lit (.bool true)], args := [d1, d2] }
  | _ => none }
def flightSpecRow : OpenClaim := { program := "ythbfdhphnofacaa", sum := "75d640cf95ee8d7b8346a5b931d22c382d5c6eb0c6010da93f9ca34646c9b825", func := "slopchest/slopchestlaw.FlightSpec", spec := "flightSpec", apart := false }
def FlightSpecSaid : Prop := flightSpecRow.holds Try.pinned (OpenSpec.ofChange flightSpecSpec)

/-- ITS FALSE NEIGHBOUR: 'it returns false'. Refute it at one input. -/
def flightSpecWrong : ChangeSpec := { name := "flightSpec", fn := fun _ => fun
  | [d1, d2] => { results := [.lit (.bool false)], args := [d1, d2] }
  | _ => none }
def FlightSpecWrongFalsely : Prop := flightSpecRow.holds Try.pinned (OpenSpec.ofChange flightSpecWrong)

/-- 'slopchestlaw.FlightOnce': WHATEVER THE INPUT: true; the input reads as it did. -/
def flightOnceSpec : ChangeSpec := { name := "flightOnce", fn := fun _ => fun
  | [d1, d2] => { results := [.lit (.bool true)], args := [d1, d2] }
  | _ => none }
def flightOnceRow : OpenClaim := { program := "ythbfdhphnofacaa", sum := "75d640cf95ee8d7b8346a5b931d22c382d5c6eb0c6010da93f9ca34646c9b825", func := "slopchest/slopchestlaw.FlightOnce", spec := "flightOnce", apart := false }
def FlightOnceSaid : Prop := flightOnceRow.holds Try.pinned (OpenSpec.ofChange flightOnceSpec)

/-- ITS FALSE NEIGHBOUR: 'it returns false'. Refute it at one input. -/
def flightOnceWrong : ChangeSpec := { name := "flightOnce", fn := fun _ => fun
  | [d1, d2] => { results := [.lit (.bool false)], args := [d1, d2] }
  | _ => none }
def FlightOnceWrongFalsely : Prop := flightOnceRow.holds Try.pinned (OpenSpec.ofChange flightOnceWrong)

/-- 'slopchestlaw.FlightLoads': WHATEVER THE INPUT: true; the input reads as it did. -/
def flightLoadsSpec : ChangeSpec := { name := "flightLoads", fn := fun _ => fun
  | [d] => { results := [.lit (.bool true)], args := [d] }
  | _ => none }
def flightLoadsRow : OpenClaim := { program := "ythbfdhphnofacaa", sum := "75d640cf95ee8d7b8346a5b931d22c382d5c6eb0c6010da93f9ca34646c9b825", func := "slopchest/slopchestlaw.FlightLoads", spec := "flightLoads", apart := false }
def FlightLoadsSaid : Prop := flightLoadsRow.holds Try.pinned (OpenSpec.ofChange flightLoadsSpec)

/-- ITS FALSE NEIGHBOUR: 'it returns false'. Refute it at one input. -/
def flightLoadsWrong : ChangeSpec := { name := "flightLoads", fn := fun _ => fun
  | [d] => { results := [.lit (.bool false)], args := [d] }
  | _ => none }
def FlightLoadsWrongFalsely : Prop := flightLoadsRow.holds Try.pinned (OpenSpec.ofChange flightLoadsWrong)

/-- 'slopchestlaw.FlightParts': WHATEVER THE INPUT: true; the input reads as it did. -/
def flightPartsSpec : ChangeSpec := { name := "flightParts", fn := fun _ => fun
  | [d1, d2] => { results := [.lit (.bool true)], args := [d1, d2] }
  | _ => none }
def flightPartsRow : OpenClaim := { program := "ythbfdhphnofacaa", sum := "75d640cf95ee8d7b8346a5b931d22c382d5c6eb0c6010da93f9ca34646c9b825", func := "slopchest/slopchestlaw.FlightParts", spec := "flightParts", apart := false }
def FlightPartsSaid : Prop := flightPartsRow.holds Try.pinned (OpenSpec.ofChange flightPartsSpec)

/-- ITS FALSE NEIGHBOUR: 'it returns false'. Refute it at one input. -/
def flightPartsWrong : ChangeSpec := { name := "flightParts", fn := fun _ => fun
  | [d1, d2] => { results := [.lit (.bool false)], args := [d1, d2] }
  | _ => none }
def FlightPartsWrongFalsely : Prop := flightPartsRow.holds Try.pinned (OpenSpec.ofChange flightPartsWrong)

/-- 'slopchestlaw.RateSpec': WHATEVER THE INPUT: true; the input reads as it did. -/
def rateSpecSpec : ChangeSpec := { name := "rateSpec", fn := fun _ => fun
  | [d1, d2, d3, d4, d5] => { results := [.lit (.bool true)], args := [d1, d2, d3, d4, d5] }
  | _ => none }
def rateSpecRow : OpenClaim := { program := "ythbfdhphnofacaa", sum := "75d640cf95ee8d7b8346a5b931d22c382d5c6eb0c6010da93f9ca34646c9b825", func := "slopchest/slopchestlaw.RateSpec", spec := "rateSpec", apart := false }
def RateSpecSaid : Prop := rateSpecRow.holds Try.pinned (OpenSpec.ofChange rateSpecSpec)

/-- ITS FALSE NEIGHBOUR: 'it returns false'. Refute it at one input. -/
def rateSpecWrong : ChangeSpec := { name := "rateSpec", fn := fun _ => fun
  | [d1, d2, d3, d4, d5] => { results := [.lit (.bool false)], args := [d1, d2, d3, d4, d5] }
  | _ => none }
def RateSpecWrongFalsely : Prop := rateSpecRow.holds Try.pinned (OpenSpec.ofChange rateSpecWrong)

/-- 'slopchestlaw.RateParts': WHATEVER THE INPUT: true; the input reads as it did. -/
def ratePartsSpec : ChangeSpec := { name := "rateParts", fn := fun _ => fun
  | [d1, d2, d3] => { results := [.lit (.bool true)], args := [d1, d2, d3] }
  | _ => none }
def ratePartsRow : OpenClaim := { program := "ythbfdhphnofacaa", sum := "75d640cf95ee8d7b8346a5b931d22c382d5c6eb0c6010da93f9ca34646c9b825", func := "slopchest/slopchestlaw.RateParts", spec := "rateParts", apart := false }
def RatePartsSaid : Prop := ratePartsRow.holds Try.pinned (OpenSpec.ofChange ratePartsSpec)

/-- ITS FALSE NEIGHBOUR: 'it returns false'. Refute it at one input. -/
def ratePartsWrong : ChangeSpec := { name := "rateParts", fn := fun _ => fun
  | [d1, d2, d3] => { results := [.lit (.bool false)], args := [d1, d2, d3] }
  | _ => none }
def RatePartsWrongFalsely : Prop := ratePartsRow.holds Try.pinned (OpenSpec.ofChange ratePartsWrong)

/-- 'slopchestlaw.RateWhen': WHATEVER THE INPUT: true; the input reads as it did. -/
def rateWhenSpec : ChangeSpec := { name := "rateWhen", fn := fun _ => fun
  | [d1, d2, d3] => { results := [.lit (.bool true)], args := [d1, d2, d3] }
  | _ => none }
def rateWhenRow : OpenClaim := { program := "ythbfdhphnofacaa", sum := "75d640cf95ee8d7b8346a5b931d22c382d5c6eb0c6010da93f9ca34646c9b825", func := "slopchest/slopchestlaw.RateWhen", spec := "rateWhen", apart := false }
def RateWhenSaid : Prop := rateWhenRow.holds Try.pinned (OpenSpec.ofChange rateWhenSpec)

/-- ITS FALSE NEIGHBOUR: 'it returns false'. Refute it at one input. -/
def rateWhenWrong : ChangeSpec := { name := "rateWhen", fn := fun _ => fun
  | [d1, d2, d3] => { results := [.lit (.bool false)], args := [d1, d2, d3] }
  | _ => none }
def RateWhenWrongFalsely : Prop := rateWhenRow.holds Try.pinned (OpenSpec.ofChange rateWhenWrong)

/-- 'slopchestlaw.RateBound': WHATEVER THE INPUT: true; the input reads as it did. -/
def rateBoundSpec : ChangeSpec := { name := "rateBound", fn := fun _ => fun
  | [d1, d2, d3] => { results := [.lit (.bool true)], args := [d1, d2, d3] }
  | _ => none }
def rateBoundRow : OpenClaim := { program := "ythbfdhphnofacaa", sum := "75d640cf95ee8d7b8346a5b931d22c382d5c6eb0c6010da93f9ca34646c9b825", func := "slopchest/slopchestlaw.RateBound", spec := "rateBound", apart := false }
def RateBoundSaid : Prop := rateBoundRow.holds Try.pinned (OpenSpec.ofChange rateBoundSpec)

/-- ITS FALSE NEIGHBOUR: 'it returns false'. Refute it at one input. -/
def rateBoundWrong : ChangeSpec := { name := "rateBound", fn := fun _ => fun
  | [d1, d2, d3] => { results := [.lit (.bool false)], args := [d1, d2, d3] }
  | _ => none }
def RateBoundWrongFalsely : Prop := rateBoundRow.holds Try.pinned (OpenSpec.ofChange rateBoundWrong)

/- THE SECOND FORM. 'bulk': how many values and letters a reading holds, each counted each time it is reached (what is shared counts as often as it is met; a slice's spare places count too). A statement '..UptoSaid' is the law's where the arguments, and the package variables that the reading takes, are together of bulk at most 1048576: NARROWER than '..Said'. Prove '..Said' where nothing that the law and all that it calls make is longer than what came in: it says more and counts as full. Else prove '..UptoSaid'. A law counts once. -/
mutual
def uptoBulk {H : Type} : DataW H → Nat
  | .lit (.string bytes) => bytes.length + 1
  | .lit _ => 1
  | .nil => 1
  | .ptr d => uptoBulk d + 1
  | .slice elems spare => uptoBulkAll elems + uptoBulkAll spare + 1
  | .agg parts => uptoBulkAll parts + 1
  | .iface _ d => uptoBulk d + 1
  | .map entries => uptoBulkEntries entries + 1
  | .held _ => 1
def uptoBulkAll {H : Type} : List (DataW H) → Nat
  | [] => 0
  | d :: r => uptoBulk d + uptoBulkAll r
def uptoBulkEntries {H : Type} : List (Lit × DataW H) → Nat
  | [] => 0
  | x :: r => uptoBulkEntry x + uptoBulkEntries r
def uptoBulkEntry {H : Type} : Lit × DataW H → Nat
  | (.string bytes, d) => bytes.length + uptoBulk d + 1
  | (_, d) => uptoBulk d + 1
 end
def uptoSmall : (H : Type) → List (DataW H) → Bool := fun _ ds => decide (uptoBulkAll ds ≤ 1048576)
def OpenSpec.upto (s : _root_.Go.ChangeSpec) : _root_.Go.OpenSpec := { _root_.Go.OpenSpec.ofChange s with cond := some uptoSmall }

/-- 'slopchestlaw.HashInverse', WHERE WHAT IT READS IS OF BULK AT MOST 1048576: true; the input reads as it did. -/
def hashInverseUptoRow : OpenClaim := { program := "ythbfdhphnofacaa", sum := "75d640cf95ee8d7b8346a5b931d22c382d5c6eb0c6010da93f9ca34646c9b825", func := "slopchest/slopchestlaw.HashInverse", spec := "hashInverse", apart := false, narrowed := true }
def HashInverseUptoSaid : Prop := hashInverseUptoRow.holds Try.pinned (OpenSpec.upto hashInverseSpec)

/-- 'slopchestlaw.HashReduce', WHERE WHAT IT READS IS OF BULK AT MOST 1048576: true; the input reads as it did. -/
def hashReduceUptoRow : OpenClaim := { program := "ythbfdhphnofacaa", sum := "75d640cf95ee8d7b8346a5b931d22c382d5c6eb0c6010da93f9ca34646c9b825", func := "slopchest/slopchestlaw.HashReduce", spec := "hashReduce", apart := false, narrowed := true }
def HashReduceUptoSaid : Prop := hashReduceUptoRow.holds Try.pinned (OpenSpec.upto hashReduceSpec)

/-- 'slopchestlaw.HashSuffix', WHERE WHAT IT READS IS OF BULK AT MOST 1048576: true; the input reads as it did. -/
def hashSuffixUptoRow : OpenClaim := { program := "ythbfdhphnofacaa", sum := "75d640cf95ee8d7b8346a5b931d22c382d5c6eb0c6010da93f9ca34646c9b825", func := "slopchest/slopchestlaw.HashSuffix", spec := "hashSuffix", apart := false, narrowed := true }
def HashSuffixUptoSaid : Prop := hashSuffixUptoRow.holds Try.pinned (OpenSpec.upto hashSuffixSpec)

/-- 'slopchestlaw.HashSpec', WHERE WHAT IT READS IS OF BULK AT MOST 1048576: true; the input reads as it did. -/
def hashSpecUptoRow : OpenClaim := { program := "ythbfdhphnofacaa", sum := "75d640cf95ee8d7b8346a5b931d22c382d5c6eb0c6010da93f9ca34646c9b825", func := "slopchest/slopchestlaw.HashSpec", spec := "hashSpec", apart := false, narrowed := true }
def HashSpecUptoSaid : Prop := hashSpecUptoRow.holds Try.pinned (OpenSpec.upto hashSpecSpec)

/-- 'slopchestlaw.FlightSpec', WHERE WHAT IT READS IS OF BULK AT MOST 1048576: true; the input reads as it did. -/
def flightSpecUptoRow : OpenClaim := { program := "ythbfdhphnofacaa", sum := "75d640cf95ee8d7b8346a5b931d22c382d5c6eb0c6010da93f9ca34646c9b825", func := "slopchest/slopchestlaw.FlightSpec", spec := "flightSpec", apart := false, narrowed := true }
def FlightSpecUptoSaid : Prop := flightSpecUptoRow.holds Try.pinned (OpenSpec.upto flightSpecSpec)

/-- 'slopchestlaw.FlightOnce', WHERE WHAT IT READS IS OF BULK AT MOST 1048576: true; the input reads as it did. -/
def flightOnceUptoRow : OpenClaim := { program := "ythbfdhphnofacaa", sum := "75d640cf95ee8d7b8346a5b931d22c382d5c6eb0c6010da93f9ca34646c9b825", func := "slopchest/slopchestlaw.FlightOnce", spec := "flightOnce", apart := false, narrowed := true }
def FlightOnceUptoSaid : Prop := flightOnceUptoRow.holds Try.pinned (OpenSpec.upto flightOnceSpec)

/-- 'slopchestlaw.FlightLoads', WHERE WHAT IT READS IS OF BULK AT MOST 1048576: true; the input reads as it did. -/
def flightLoadsUptoRow : OpenClaim := { program := "ythbfdhphnofacaa", sum := "75d640cf95ee8d7b8346a5b931d22c382d5c6eb0c6010da93f9ca34646c9b825", func := "slopchest/slopchestlaw.FlightLoads", spec := "flightLoads", apart := false, narrowed := true }
def FlightLoadsUptoSaid : Prop := flightLoadsUptoRow.holds Try.pinned (OpenSpec.upto flightLoadsSpec)

/-- 'slopchestlaw.FlightParts', WHERE WHAT IT READS IS OF BULK AT MOST 1048576: true; the input reads as it did. -/
def flightPartsUptoRow : OpenClaim := { program := "ythbfdhphnofacaa", sum := "75d640cf95ee8d7b8346a5b931d22c382d5c6eb0c6010da93f9ca34646c9b825", func := "slopchest/slopchestlaw.FlightParts", spec := "flightParts", apart := false, narrowed := true }
def FlightPartsUptoSaid : Prop := flightPartsUptoRow.holds Try.pinned (OpenSpec.upto flightPartsSpec)

/-- 'slopchestlaw.RateSpec', WHERE WHAT IT READS IS OF BULK AT MOST 1048576: true; the input reads as it did. -/
def rateSpecUptoRow : OpenClaim := { program := "ythbfdhphnofacaa", sum := "75d640cf95ee8d7b8346a5b931d22c382d5c6eb0c6010da93f9ca34646c9b825", func := "slopchest/slopchestlaw.RateSpec", spec := "rateSpec", apart := false, narrowed := true }
def RateSpecUptoSaid : Prop := rateSpecUptoRow.holds Try.pinned (OpenSpec.upto rateSpecSpec)

/-- 'slopchestlaw.RateParts', WHERE WHAT IT READS IS OF BULK AT MOST 1048576: true; the input reads as it did. -/
def ratePartsUptoRow : OpenClaim := { program := "ythbfdhphnofacaa", sum := "75d640cf95ee8d7b8346a5b931d22c382d5c6eb0c6010da93f9ca34646c9b825", func := "slopchest/slopchestlaw.RateParts", spec := "rateParts", apart := false, narrowed := true }
def RatePartsUptoSaid : Prop := ratePartsUptoRow.holds Try.pinned (OpenSpec.upto ratePartsSpec)

/-- 'slopchestlaw.RateWhen', WHERE WHAT IT READS IS OF BULK AT MOST 1048576: true; the input reads as it did. -/
def rateWhenUptoRow : OpenClaim := { program := "ythbfdhphnofacaa", sum := "75d640cf95ee8d7b8346a5b931d22c382d5c6eb0c6010da93f9ca34646c9b825", func := "slopchest/slopchestlaw.RateWhen", spec := "rateWhen", apart := false, narrowed := true }
def RateWhenUptoSaid : Prop := rateWhenUptoRow.holds Try.pinned (OpenSpec.upto rateWhenSpec)

/-- 'slopchestlaw.RateBound', WHERE WHAT IT READS IS OF BULK AT MOST 1048576: true; the input reads as it did. -/
def rateBoundUptoRow : OpenClaim := { program := "ythbfdhphnofacaa", sum := "75d640cf95ee8d7b8346a5b931d22c382d5c6eb0c6010da93f9ca34646c9b825", func := "slopchest/slopchestlaw.RateBound", spec := "rateBound", apart := false, narrowed := true }
def RateBoundUptoSaid : Prop := rateBoundUptoRow.holds Try.pinned (OpenSpec.upto rateBoundSpec)

end Rows
end Go.Proofs.Ythbfdhphnofacaa
