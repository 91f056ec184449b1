/-
  No cell of these rows narrows 'for every input' (looked for: loops, veiled, ifaces, maps, wideKeys, modest, calm, conditions, laid).
  DERIVED. THE GIVEN ROWS OF THIS SEAT. 12 by the template 'for every input the law returns true; each argument reads behind the call as it read before'; 0 by the template 'total and deterministic' (their statements: YthbfdhphnofacabTotals.lean).
  GIVEN WITH THE SEED: the statements are not yours to turn. If you find one false, say at which input.
  Laid BY PROGRAM, IN A SANDBOX (cutbox-rows.mjs): the forced cells as the released guide's own fill.sh prints them over the translation 8cec3a4df139ca9f… (all of the seat's roots in one cut). By AI agents, Wed Nov 11 2026. No macro, syntax, notation, axiom, sorry.
-/
import Derived.Test.YthbfdhphnofacabChecked
import GoSem.Claim
import GoSem.ClaimJoined
import GoSem.ClaimMapViews
import Derived.JoinedTies
import Derived.KernelRfl
namespace Go.Proofs.Ythbfdhphnofacab
/- THE CELL 'sum', in the pinned program and in every row, IS THE sha256 OF THE DUMP (.gsa) THAT YthbfdhphnofacabProg.lean LOADS. Nothing in Lean hashes anything: it is a label: what it is worth is what the hold of that sum in a sandbox is worth. -/
noncomputable def Try.pinned : Pinned := { name := "ythbfdhphnofacab", sum := "8cec3a4df139ca9f9bed0b9a931ba8eff7d0c02422fa03c318268487db36cfc0", checked := Try.checked }
namespace Rows
def none {H : Type} : Left H := { results := [], args := [] }

/-- 'slopchestlaw.OptimalSpec': WHATEVER THE INPUT: true; the input reads as it did. -/
def optimalSpecSpec : ChangeSpec := { name := "optimalSpec", fn := fun _ => fun
  | [d1, d2, d3, d4, d5] => { results := [.lit (.bool true)], args := [d1, d2, d3, d4, d5] }
  | _ => none }
def optimalSpecRow : OpenClaim := { program := "ythbfdhphnofacab", sum := "8cec3a4df139ca9f9bed0b9a931ba8eff7d0c02422fa03c318268487db36cfc0", func := "slopchest/slopchestlaw.OptimalSpec", spec := "optimalSpec", unfollowed := true, recurses := true, apart := false }
def OptimalSpecSaid : Prop := optimalSpecRow.holds Try.pinned (OpenSpec.ofChange optimalSpecSpec)

/-- ITS FALSE NEIGHBOUR: 'it returns false'. Refute it at one input. -/
def optimalSpecWrong : ChangeSpec := { name := "optimalSpec", fn := fun _ => fun
  | [d1, d2, d3, d4, d5] => { results := [.lit (.bool false)], args := [d1, d2, d3, d4, d5] }
  | _ => none }
def OptimalSpecWrongFalsely : Prop := optimalSpecRow.holds Try.pinned (OpenSpec.ofChange optimalSpecWrong)

/-- 'slopchestlaw.OptimalFewest': WHATEVER THE INPUT: true; the input reads as it did. -/
def optimalFewestSpec : ChangeSpec := { name := "optimalFewest", fn := fun _ => fun
  | [d1, d2] => { results := [.lit (.bool true)], args := [d1, d2] }
  | _ => none }
def optimalFewestRow : OpenClaim := { program := "ythbfdhphnofacab", sum := "8cec3a4df139ca9f9bed0b9a931ba8eff7d0c02422fa03c318268487db36cfc0", func := "slopchest/slopchestlaw.OptimalFewest", spec := "optimalFewest", unfollowed := true, recurses := true, apart := false }
def OptimalFewestSaid : Prop := optimalFewestRow.holds Try.pinned (OpenSpec.ofChange optimalFewestSpec)

/-- ITS FALSE NEIGHBOUR: 'it returns false'. Refute it at one input. -/
def optimalFewestWrong : ChangeSpec := { name := "optimalFewest", fn := fun _ => fun
  | [d1, d2] => { results := [.lit (.bool false)], args := [d1, d2] }
  | _ => none }
def OptimalFewestWrongFalsely : Prop := optimalFewestRow.holds Try.pinned (OpenSpec.ofChange optimalFewestWrong)

/-- 'slopchestlaw.GreedySpec': WHATEVER THE INPUT: true; the input reads as it did. -/
def greedySpecSpec : ChangeSpec := { name := "greedySpec", fn := fun _ => fun
  | [d1, d2] => { results := [.lit (.bool true)], args := [d1, d2] }
  | _ => none }
def greedySpecRow : OpenClaim := { program := "ythbfdhphnofacab", sum := "8cec3a4df139ca9f9bed0b9a931ba8eff7d0c02422fa03c318268487db36cfc0", func := "slopchest/slopchestlaw.GreedySpec", spec := "greedySpec", unfollowed := true, recurses := true, apart := false }
def GreedySpecSaid : Prop := greedySpecRow.holds Try.pinned (OpenSpec.ofChange greedySpecSpec)

/-- ITS FALSE NEIGHBOUR: 'it returns false'. Refute it at one input. -/
def greedySpecWrong : ChangeSpec := { name := "greedySpec", fn := fun _ => fun
  | [d1, d2] => { results := [.lit (.bool false)], args := [d1, d2] }
  | _ => none }
def GreedySpecWrongFalsely : Prop := greedySpecRow.holds Try.pinned (OpenSpec.ofChange greedySpecWrong)

/-- 'slopchestlaw.GreedyFits': WHATEVER THE INPUT: true; the input reads as it did. -/
def greedyFitsSpec : ChangeSpec := { name := "greedyFits", fn := fun _ => fun
  | [d1, d2] => { results := [.lit (.bool true)], args := [d1, d2] }
  | _ => none }
def greedyFitsRow : OpenClaim := { program := "ythbfdhphnofacab", sum := "8cec3a4df139ca9f9bed0b9a931ba8eff7d0c02422fa03c318268487db36cfc0", func := "slopchest/slopchestlaw.GreedyFits", spec := "greedyFits", unfollowed := true, recurses := true, apart := false }
def GreedyFitsSaid : Prop := greedyFitsRow.holds Try.pinned (OpenSpec.ofChange greedyFitsSpec)

/-- ITS FALSE NEIGHBOUR: 'it returns false'. Refute it at one input. -/
def greedyFitsWrong : ChangeSpec := { name := "greedyFits", fn := fun _ => fun
  | [d1, d2] => { results := [.lit (.bool false)], args := [d1, d2] }
  | _ => none }
def GreedyFitsWrongFalsely : Prop := greedyFitsRow.holds Try.pinned (OpenSpec.ofChange greedyFitsWrong)

/-- 'slopchestlaw.GreedyVictims': WHATEVER THE INPUT: true; the input reads as it did. -/
def greedyVictimsSpec : ChangeSpec := { name := "greedyVictims", fn := fun _ => fun
  | [d1, d2] => { results := [.lit (.bool true)], args := [d1, d2] }
  | _ => none }
def greedyVictimsRow : OpenClaim := { program := "ythbfdhphnofacab", sum := "8cec3a4df139ca9f9bed0b9a931ba8eff7d0c02422fa03c318268487db36cfc0", func := "slopchest/slopchestlaw.GreedyVictims", spec := "greedyVictims", unfollowed := true, recurses := true, apart := false }
def GreedyVictimsSaid : Prop := greedyVictimsRow.holds Try.pinned (OpenSpec.ofChange greedyVictimsSpec)

/-- ITS FALSE NEIGHBOUR: 'it returns false'. Refute it at one input. -/
def greedyVictimsWrong : ChangeSpec := { name := "greedyVictims", fn := fun _ => fun
  | [d1, d2] => { results := [.lit (.bool false)], args := [d1, d2] }
  | _ => none }
def GreedyVictimsWrongFalsely : Prop := greedyVictimsRow.holds Try.pinned (OpenSpec.ofChange greedyVictimsWrong)

/-- 'slopchestlaw.GreedyEqual': WHATEVER THE INPUT: true; the input reads as it did. -/
def greedyEqualSpec : ChangeSpec := { name := "greedyEqual", fn := fun _ => fun
  | [d1, d2] => { results := [.lit (.bool true)], args := [d1, d2] }
  | _ => none }
def greedyEqualRow : OpenClaim := { program := "ythbfdhphnofacab", sum := "8cec3a4df139ca9f9bed0b9a931ba8eff7d0c02422fa03c318268487db36cfc0", func := "slopchest/slopchestlaw.GreedyEqual", spec := "greedyEqual", unfollowed := true, recurses := true, apart := false }
def GreedyEqualSaid : Prop := greedyEqualRow.holds Try.pinned (OpenSpec.ofChange greedyEqualSpec)

/-- ITS FALSE NEIGHBOUR: 'it returns false'. Refute it at one input. -/
def greedyEqualWrong : ChangeSpec := { name := "greedyEqual", fn := fun _ => fun
  | [d1, d2] => { results := [.lit (.bool false)], args := [d1, d2] }
  | _ => none }
def GreedyEqualWrongFalsely : Prop := greedyEqualRow.holds Try.pinned (OpenSpec.ofChange greedyEqualWrong)

/-- 'slopchestlaw.ClockSpec': WHATEVER THE INPUT: true; the input reads as it did. -/
def clockSpecSpec : ChangeSpec := { name := "clockSpec", fn := fun _ => fun
  | [d1, d2, d3] => { results := [.lit (.bool true)], args := [d1, d2, d3] }
  | _ => none }
def clockSpecRow : OpenClaim := { program := "ythbfdhphnofacab", sum := "8cec3a4df139ca9f9bed0b9a931ba8eff7d0c02422fa03c318268487db36cfc0", func := "slopchest/slopchestlaw.ClockSpec", spec := "clockSpec", unfollowed := true, recurses := true, apart := false }
def ClockSpecSaid : Prop := clockSpecRow.holds Try.pinned (OpenSpec.ofChange clockSpecSpec)

/-- ITS FALSE NEIGHBOUR: 'it returns false'. Refute it at one input. -/
def clockSpecWrong : ChangeSpec := { name := "clockSpec", fn := fun _ => fun
  | [d1, d2, d3] => { results := [.lit (.bool false)], args := [d1, d2, d3] }
  | _ => none }
def ClockSpecWrongFalsely : Prop := clockSpecRow.holds Try.pinned (OpenSpec.ofChange clockSpecWrong)

/-- 'slopchestlaw.ClockParts': WHATEVER THE INPUT: true; the input reads as it did. -/
def clockPartsSpec : ChangeSpec := { name := "clockParts", fn := fun _ => fun
  | [d1, d2, d3] => { results := [.lit (.bool true)], args := [d1, d2, d3] }
  | _ => none }
def clockPartsRow : OpenClaim := { program := "ythbfdhphnofacab", sum := "8cec3a4df139ca9f9bed0b9a931ba8eff7d0c02422fa03c318268487db36cfc0", func := "slopchest/slopchestlaw.ClockParts", spec := "clockParts", unfollowed := true, recurses := true, apart := false }
def ClockPartsSaid : Prop := clockPartsRow.holds Try.pinned (OpenSpec.ofChange clockPartsSpec)

/-- ITS FALSE NEIGHBOUR: 'it returns false'. Refute it at one input. -/
def clockPartsWrong : ChangeSpec := { name := "clockParts", fn := fun _ => fun
  | [d1, d2, d3] => { results := [.lit (.bool false)], args := [d1, d2, d3] }
  | _ => none }
def ClockPartsWrongFalsely : Prop := clockPartsRow.holds Try.pinned (OpenSpec.ofChange clockPartsWrong)

/-- 'slopchestlaw.ClockSpares': WHATEVER THE INPUT: true; the input reads as it did. -/
def clockSparesSpec : ChangeSpec := { name := "clockSpares", fn := fun _ => fun
  | [d1, d2] => { results := [.lit (.bool true)], args := [d1, d2] }
  | _ => none }
def clockSparesRow : OpenClaim := { program := "ythbfdhphnofacab", sum := "8cec3a4df139ca9f9bed0b9a931ba8eff7d0c02422fa03c318268487db36cfc0", func := "slopchest/slopchestlaw.ClockSpares", spec := "clockSpares", unfollowed := true, recurses := true, apart := false }
def ClockSparesSaid : Prop := clockSparesRow.holds Try.pinned (OpenSpec.ofChange clockSparesSpec)

/-- ITS FALSE NEIGHBOUR: 'it returns false'. Refute it at one input. -/
def clockSparesWrong : ChangeSpec := { name := "clockSpares", fn := fun _ => fun
  | [d1, d2] => { results := [.lit (.bool false)], args := [d1, d2] }
  | _ => none }
def ClockSparesWrongFalsely : Prop := clockSparesRow.holds Try.pinned (OpenSpec.ofChange clockSparesWrong)

/-- 'slopchestlaw.ClockFifo': WHATEVER THE INPUT: true; the input reads as it did. -/
def clockFifoSpec : ChangeSpec := { name := "clockFifo", fn := fun _ => fun
  | [d1, d2] => { results := [.lit (.bool true)], args := [d1, d2] }
  | _ => none }
def clockFifoRow : OpenClaim := { program := "ythbfdhphnofacab", sum := "8cec3a4df139ca9f9bed0b9a931ba8eff7d0c02422fa03c318268487db36cfc0", func := "slopchest/slopchestlaw.ClockFifo", spec := "clockFifo", unfollowed := true, recurses := true, apart := false }
def ClockFifoSaid : Prop := clockFifoRow.holds Try.pinned (OpenSpec.ofChange clockFifoSpec)

/-- ITS FALSE NEIGHBOUR: 'it returns false'. Refute it at one input. -/
def clockFifoWrong : ChangeSpec := { name := "clockFifo", fn := fun _ => fun
  | [d1, d2] => { results := [.lit (.bool false)], args := [d1, d2] }
  | _ => none }
def ClockFifoWrongFalsely : Prop := clockFifoRow.holds Try.pinned (OpenSpec.ofChange clockFifoWrong)

/-- 'slopchestlaw.TableSpec': WHATEVER THE INPUT: true; the input reads as it did. -/
def tableSpecSpec : ChangeSpec := { name := "tableSpec", fn := fun _ => fun
  | [d1, d2, d3, d4] => { results := [.lit (.bool true)], args := [d1, d2, d3, d4] }
  | _ => none }
def tableSpecRow : OpenClaim := { program := "ythbfdhphnofacab", sum := "8cec3a4df139ca9f9bed0b9a931ba8eff7d0c02422fa03c318268487db36cfc0", func := "slopchest/slopchestlaw.TableSpec", spec := "tableSpec", unfollowed := true, recurses := true, apart := false }
def TableSpecSaid : Prop := tableSpecRow.holds Try.pinned (OpenSpec.ofChange tableSpecSpec)

/-- ITS FALSE NEIGHBOUR: 'it returns false'. Refute it at one input. -/
def tableSpecWrong : ChangeSpec := { name := "tableSpec", fn := fun _ => fun
  | [d1, d2, d3, d4] => { results := [.lit (.bool false)], args := [d1, d2, d3, d4] }
  | _ => none }
def TableSpecWrongFalsely : Prop := tableSpecRow.holds Try.pinned (OpenSpec.ofChange tableSpecWrong)

/-- 'slopchesttop.TopFifo': WHATEVER THE INPUT: true; the input reads as it did. -/
def topFifoSpec : ChangeSpec := { name := "topFifo", fn := fun _ => fun
  | [d1, d2] => { results := [.lit (.bool true)], args := [d1, d2] }
  | _ => none }
def topFifoRow : OpenClaim := { program := "ythbfdhphnofacab", sum := "8cec3a4df139ca9f9bed0b9a931ba8eff7d0c02422fa03c318268487db36cfc0", func := "slopchest/slopchesttop.TopFifo", spec := "topFifo", inPlace := ["slices.overlaps[int]"], unfollowed := true, recurses := true, apart := false }
def TopFifoSaid : Prop := topFifoRow.holds Try.pinned (OpenSpec.ofChange topFifoSpec)

/-- ITS FALSE NEIGHBOUR: 'it returns false'. Refute it at one input. -/
def topFifoWrong : ChangeSpec := { name := "topFifo", fn := fun _ => fun
  | [d1, d2] => { results := [.lit (.bool false)], args := [d1, d2] }
  | _ => none }
def TopFifoWrongFalsely : Prop := topFifoRow.holds Try.pinned (OpenSpec.ofChange topFifoWrong)

/- THE SECOND FORM. 'bulk': how many values and letters a reading holds, each counted each time it is reached (what is shared counts as often as it is met; a slice's spare places count too). A statement '..UptoSaid' is the law's where the arguments, and the package variables that the reading takes, are together of bulk at most 1048576: NARROWER than '..Said'. Prove '..Said' where nothing that the law and all that it calls make is longer than what came in: it says more and counts as full. Else prove '..UptoSaid'. A law counts once. -/
mutual
def uptoBulk {H : Type} : DataW H → Nat
  | .lit (.string bytes) => bytes.length + 1
  | .lit _ => 1
  | .nil => 1
  | .ptr d => uptoBulk d + 1
  | .slice elems spare => uptoBulkAll elems + uptoBulkAll spare + 1
  | .agg parts => uptoBulkAll parts + 1
  | .iface _ d => uptoBulk d + 1
  | .map entries => uptoBulkEntries entries + 1
  | .held _ => 1
def uptoBulkAll {H : Type} : List (DataW H) → Nat
  | [] => 0
  | d :: r => uptoBulk d + uptoBulkAll r
def uptoBulkEntries {H : Type} : List (Lit × DataW H) → Nat
  | [] => 0
  | x :: r => uptoBulkEntry x + uptoBulkEntries r
def uptoBulkEntry {H : Type} : Lit × DataW H → Nat
  | (.string bytes, d) => bytes.length + uptoBulk d + 1
  | (_, d) => uptoBulk d + 1
 end
def uptoSmall : (H : Type) → List (DataW H) → Bool := fun _ ds => decide (uptoBulkAll ds ≤ 1048576)
def OpenSpec.upto (s : _root_.Go.ChangeSpec) : _root_.Go.OpenSpec := { _root_.Go.OpenSpec.ofChange s with cond := some uptoSmall }

/-- 'slopchestlaw.OptimalSpec', WHERE WHAT IT READS IS OF BULK AT MOST 1048576: true; the input reads as it did. -/
def optimalSpecUptoRow : OpenClaim := { program := "ythbfdhphnofacab", sum := "8cec3a4df139ca9f9bed0b9a931ba8eff7d0c02422fa03c318268487db36cfc0", func := "slopchest/slopchestlaw.OptimalSpec", spec := "optimalSpec", unfollowed := true, recurses := true, apart := false, narrowed := true }
def OptimalSpecUptoSaid : Prop := optimalSpecUptoRow.holds Try.pinned (OpenSpec.upto optimalSpecSpec)

/-- 'slopchestlaw.OptimalFewest', WHERE WHAT IT READS IS OF BULK AT MOST 1048576: true; the input reads as it did. -/
def optimalFewestUptoRow : OpenClaim := { program := "ythbfdhphnofacab", sum := "8cec3a4df139ca9f9bed0b9a931ba8eff7d0c02422fa03c318268487db36cfc0", func := "slopchest/slopchestlaw.OptimalFewest", spec := "optimalFewest", unfollowed := true, recurses := true, apart := false, narrowed := true }
def OptimalFewestUptoSaid : Prop := optimalFewestUptoRow.holds Try.pinned (OpenSpec.upto optimalFewestSpec)

/-- 'slopchestlaw.GreedySpec', WHERE WHAT IT READS IS OF BULK AT MOST 1048576: true; the input reads as it did. -/
def greedySpecUptoRow : OpenClaim := { program := "ythbfdhphnofacab", sum := "8cec3a4df139ca9f9bed0b9a931ba8eff7d0c02422fa03c318268487db36cfc0", func := "slopchest/slopchestlaw.GreedySpec", spec := "greedySpec", unfollowed := true, recurses := true, apart := false, narrowed := true }
def GreedySpecUptoSaid : Prop := greedySpecUptoRow.holds Try.pinned (OpenSpec.upto greedySpecSpec)

/-- 'slopchestlaw.GreedyFits', WHERE WHAT IT READS IS OF BULK AT MOST 1048576: true; the input reads as it did. -/
def greedyFitsUptoRow : OpenClaim := { program := "ythbfdhphnofacab", sum := "8cec3a4df139ca9f9bed0b9a931ba8eff7d0c02422fa03c318268487db36cfc0", func := "slopchest/slopchestlaw.GreedyFits", spec := "greedyFits", unfollowed := true, recurses := true, apart := false, narrowed := true }
def GreedyFitsUptoSaid : Prop := greedyFitsUptoRow.holds Try.pinned (OpenSpec.upto greedyFitsSpec)

/-- 'slopchestlaw.GreedyVictims', WHERE WHAT IT READS IS OF BULK AT MOST 1048576: true; the input reads as it did. -/
def greedyVictimsUptoRow : OpenClaim := { program := "ythbfdhphnofacab", sum := "8cec3a4df139ca9f9bed0b9a931ba8eff7d0c02422fa03c318268487db36cfc0", func := "slopchest/slopchestlaw.GreedyVictims", spec := "greedyVictims", unfollowed := true, recurses := true, apart := false, narrowed := true }
def GreedyVictimsUptoSaid : Prop := greedyVictimsUptoRow.holds Try.pinned (OpenSpec.upto greedyVictimsSpec)

/-- 'slopchestlaw.GreedyEqual', WHERE WHAT IT READS IS OF BULK AT MOST 1048576: true; the input reads as it did. -/
def greedyEqualUptoRow : OpenClaim := { program := "ythbfdhphnofacab", sum := "8cec3a4df139ca9f9bed0b9a931ba8eff7d0c02422fa03c318268487db36cfc0", func := "slopchest/slopchestlaw.GreedyEqual", spec := "greedyEqual", unfollowed := true, recurses := true, apart := false, narrowed := true }
def GreedyEqualUptoSaid : Prop := greedyEqualUptoRow.holds Try.pinned (OpenSpec.upto greedyEqualSpec)

/-- 'slopchestlaw.ClockSpec', WHERE WHAT IT READS IS OF BULK AT MOST 1048576: true; the input reads as it did. -/
def clockSpecUptoRow : OpenClaim := { program := "ythbfdhphnofacab", sum := "8cec3a4df139ca9f9bed0b9a931ba8eff7d0c02422fa03c318268487db36cfc0", func := "slopchest/slopchestlaw.ClockSpec", spec := "clockSpec", unfollowed := true, recurses := true, apart := false, narrowed := true }
def ClockSpecUptoSaid : Prop := clockSpecUptoRow.holds Try.pinned (OpenSpec.upto clockSpecSpec)

/-- 'slopchestlaw.ClockParts', WHERE WHAT IT READS IS OF BULK AT MOST 1048576: true; the input reads as it did. -/
def clockPartsUptoRow : OpenClaim := { program := "ythbfdhphnofacab", sum := "8cec3a4df139ca9f9bed0b9a931ba8eff7d0c02422fa03c318268487db36cfc0", func := "slopchest/slopchestlaw.ClockParts", spec := "clockParts", unfollowed := true, recurses := true, apart := false, narrowed := true }
def ClockPartsUptoSaid : Prop := clockPartsUptoRow.holds Try.pinned (OpenSpec.upto clockPartsSpec)

/-- 'slopchestlaw.ClockSpares', WHERE WHAT IT READS IS OF BULK AT MOST 1048576: true; the input reads as it did. -/
def clockSparesUptoRow : OpenClaim := { program := "ythbfdhphnofacab", sum := "8cec3a4df139ca9f9bed0b9a931ba8eff7d0c02422fa03c318268487db36cfc0", func := "slopchest/slopchestlaw.ClockSpares", spec := "clockSpares", unfollowed := true, recurses := true, apart := false, narrowed := true }
def ClockSparesUptoSaid : Prop := clockSparesUptoRow.holds Try.pinned (OpenSpec.upto clockSparesSpec)

/-- 'slopchestlaw.ClockFifo', WHERE WHAT IT READS IS OF BULK AT MOST 1048576: true; the input reads as it did. -/
def clockFifoUptoRow : OpenClaim := { program := "ythbfdhphnofacab", sum := "8cec3a4df139ca9f9bed0b9a931ba8eff7d0c02422fa03c318268487db36cfc0", func := "slopchest/slopchestlaw.ClockFifo", spec := "clockFifo", unfollowed := true, recurses := true, apart := false, narrowed := true }
def ClockFifoUptoSaid : Prop := clockFifoUptoRow.holds Try.pinned (OpenSpec.upto clockFifoSpec)

/-- 'slopchestlaw.TableSpec', WHERE WHAT IT READS IS OF BULK AT MOST 1048576: true; the input reads as it did. -/
def tableSpecUptoRow : OpenClaim := { program := "ythbfdhphnofacab", sum := "8cec3a4df139ca9f9bed0b9a931ba8eff7d0c02422fa03c318268487db36cfc0", func := "slopchest/slopchestlaw.TableSpec", spec := "tableSpec", unfollowed := true, recurses := true, apart := false, narrowed := true }
def TableSpecUptoSaid : Prop := tableSpecUptoRow.holds Try.pinned (OpenSpec.upto tableSpecSpec)

/-- 'slopchesttop.TopFifo', WHERE WHAT IT READS IS OF BULK AT MOST 1048576: true; the input reads as it did. -/
def topFifoUptoRow : OpenClaim := { program := "ythbfdhphnofacab", sum := "8cec3a4df139ca9f9bed0b9a931ba8eff7d0c02422fa03c318268487db36cfc0", func := "slopchest/slopchesttop.TopFifo", spec := "topFifo", inPlace := ["slices.overlaps[int]"], unfollowed := true, recurses := true, apart := false, narrowed := true }
def TopFifoUptoSaid : Prop := topFifoUptoRow.holds Try.pinned (OpenSpec.upto topFifoSpec)

end Rows
end Go.Proofs.Ythbfdhphnofacab
