/-
  No cell of these rows narrows 'for every input' (looked for: loops, veiled, ifaces, maps, wideKeys, modest, calm, conditions, laid).
  DERIVED. THE GIVEN ROWS OF THIS SEAT. 10 by the template 'for every input the law returns true; each argument reads behind the call as it read before'; 0 by the template 'total and deterministic' (their statements: YtnmbkopnopaigaaTotals.lean).
  GIVEN WITH THE SEED: the statements are not yours to turn. If you find one false, say at which input.
  Laid BY PROGRAM, IN A SANDBOX (cutbox-rows.mjs): the forced cells as the released guide's own fill.sh prints them over the translation 48add66be7823d1f… (all of the seat's roots in one cut). By AI agents, Wed Nov 11 2026. No macro, syntax, notation, axiom, sorry.
-/
import Derived.Test.YtnmbkopnopaigaaChecked
import GoSem.Claim
import GoSem.ClaimJoined
import GoSem.ClaimMapViews
import Derived.JoinedTies
import Derived.KernelRfl
namespace Go.Proofs.Ytnmbkopnopaigaa
/- THE CELL 'sum', in the pinned program and in every row, IS THE sha256 OF THE DUMP (.gsa) THAT YtnmbkopnopaigaaProg.lean LOADS. Nothing in Lean hashes anything: it is a label: what it is worth is what the hold of that sum in a sandbox is worth. -/
noncomputable def Try.pinned : Pinned := { name := "ytnmbkopnopaigaa", sum := "48add66be7823d1f7f41e8c714c8d27ee6f5cb5ec0e6c3de4338e50c3932d753", checked := Try.checked }
namespace Rows
def none {H : Type} : Left H := { results := [], args := [] }

/-- 'slopchestlaw.SketchSpec': WHATEVER THE INPUT: true; the input reads as it did. -/
def sketchSpecSpec : ChangeSpec := { name := "sketchSpec", fn := fun _ => fun
  | [d1, d2, d3, d4] => { results := [.lit (.bool true)], args := [d1, d2, d3, d4] }
  | _ => none }
def sketchSpecRow : OpenClaim := { program := "ytnmbkopnopaigaa", sum := "48add66be7823d1f7f41e8c714c8d27ee6f5cb5ec0e6c3de4338e50c3932d753", func := "slopchest/slopchestlaw.SketchSpec", spec := "sketchSpec", unfollowed := true, recurses := true, apart := false }
def SketchSpecSaid : Prop := sketchSpecRow.holds Try.pinned (OpenSpec.ofChange sketchSpecSpec)

/-- ITS FALSE NEIGHBOUR: 'it returns false'. Refute it at one input. -/
def sketchSpecWrong : ChangeSpec := { name := "sketchSpec", fn := fun _ => fun
  | [d1, d2, d3, d4] => { results := [.lit (.bool false)], args := [d1, d2, d3, d4] }
  | _ => none }
def SketchSpecWrongFalsely : Prop := sketchSpecRow.holds Try.pinned (OpenSpec.ofChange sketchSpecWrong)

/-- 'slopchestlaw.SketchEstimate': WHATEVER THE INPUT: true; the input reads as it did. -/
def sketchEstimateSpec : ChangeSpec := { name := "sketchEstimate", fn := fun _ => fun
  | [d1, d2, d3, d4] => { results := [.lit (.bool true)], args := [d1, d2, d3, d4] }
  | _ => none }
def sketchEstimateRow : OpenClaim := { program := "ytnmbkopnopaigaa", sum := "48add66be7823d1f7f41e8c714c8d27ee6f5cb5ec0e6c3de4338e50c3932d753", func := "slopchest/slopchestlaw.SketchEstimate", spec := "sketchEstimate", unfollowed := true, recurses := true, apart := false }
def SketchEstimateSaid : Prop := sketchEstimateRow.holds Try.pinned (OpenSpec.ofChange sketchEstimateSpec)

/-- ITS FALSE NEIGHBOUR: 'it returns false'. Refute it at one input. -/
def sketchEstimateWrong : ChangeSpec := { name := "sketchEstimate", fn := fun _ => fun
  | [d1, d2, d3, d4] => { results := [.lit (.bool false)], args := [d1, d2, d3, d4] }
  | _ => none }
def SketchEstimateWrongFalsely : Prop := sketchEstimateRow.holds Try.pinned (OpenSpec.ofChange sketchEstimateWrong)

/-- 'slopchestlaw.SketchMerge': WHATEVER THE INPUT: true; the input reads as it did. -/
def sketchMergeSpec : ChangeSpec := { name := "sketchMerge", fn := fun _ => fun
  | [d1, d2, d3, d4] => { results := [.lit (.bool true)], args := [d1, d2, d3, d4] }
  | _ => none }
def sketchMergeRow : OpenClaim := { program := "ytnmbkopnopaigaa", sum := "48add66be7823d1f7f41e8c714c8d27ee6f5cb5ec0e6c3de4338e50c3932d753", func := "slopchest/slopchestlaw.SketchMerge", spec := "sketchMerge", unfollowed := true, recurses := true, apart := false }
def SketchMergeSaid : Prop := sketchMergeRow.holds Try.pinned (OpenSpec.ofChange sketchMergeSpec)

/-- ITS FALSE NEIGHBOUR: 'it returns false'. Refute it at one input. -/
def sketchMergeWrong : ChangeSpec := { name := "sketchMerge", fn := fun _ => fun
  | [d1, d2, d3, d4] => { results := [.lit (.bool false)], args := [d1, d2, d3, d4] }
  | _ => none }
def SketchMergeWrongFalsely : Prop := sketchMergeRow.holds Try.pinned (OpenSpec.ofChange sketchMergeWrong)

/-- 'slopchestlaw.SketchAdds': WHATEVER THE INPUT: true; the input reads as it did. -/
def sketchAddsSpec : ChangeSpec := { name := "sketchAdds", fn := fun _ => fun
  | [d1, d2, d3, d4] => { results := [.lit (.bool true)], args := [d1, d2, d3, d4] }
  | _ => none }
def sketchAddsRow : OpenClaim := { program := "ytnmbkopnopaigaa", sum := "48add66be7823d1f7f41e8c714c8d27ee6f5cb5ec0e6c3de4338e50c3932d753", func := "slopchest/slopchestlaw.SketchAdds", spec := "sketchAdds", unfollowed := true, recurses := true, apart := false }
def SketchAddsSaid : Prop := sketchAddsRow.holds Try.pinned (OpenSpec.ofChange sketchAddsSpec)

/-- ITS FALSE NEIGHBOUR: 'it returns false'. Refute it at one input. -/
def sketchAddsWrong : ChangeSpec := { name := "sketchAdds", fn := fun _ => fun
  | [d1, d2, d3, d4] => { results := [.lit (.bool false)], args := [d1, d2, d3, d4] }
  | _ => none }
def SketchAddsWrongFalsely : Prop := sketchAddsRow.holds Try.pinned (OpenSpec.ofChange sketchAddsWrong)

/-- 'slopchestlaw.WheelSpec': WHATEVER THE INPUT: true; the input reads as it did. -/
def wheelSpecSpec : ChangeSpec := { name := "wheelSpec", fn := fun _ => fun
  | [d1, d2, d3, d4] => { results := [.lit (.bool true)], args := [d1, d2, d3, d4] }
  | _ => none }
def wheelSpecRow : OpenClaim := { program := "ytnmbkopnopaigaa", sum := "48add66be7823d1f7f41e8c714c8d27ee6f5cb5ec0e6c3de4338e50c3932d753", func := "slopchest/slopchestlaw.WheelSpec", spec := "wheelSpec", inPlace := ["slices.overlaps[slopchest/api.Timer]"], unfollowed := true, recurses := true, apart := false }
def WheelSpecSaid : Prop := wheelSpecRow.holds Try.pinned (OpenSpec.ofChange wheelSpecSpec)

/-- ITS FALSE NEIGHBOUR: 'it returns false'. Refute it at one input. -/
def wheelSpecWrong : ChangeSpec := { name := "wheelSpec", fn := fun _ => fun
  | [d1, d2, d3, d4] => { results := [.lit (.bool false)], args := [d1, d2, d3, d4] }
  | _ => none }
def WheelSpecWrongFalsely : Prop := wheelSpecRow.holds Try.pinned (OpenSpec.ofChange wheelSpecWrong)

/-- 'slopchestlaw.WheelParts': WHATEVER THE INPUT: true; the input reads as it did. -/
def wheelPartsSpec : ChangeSpec := { name := "wheelParts", fn := fun _ => fun
  | [d1, d2, d3] => { results := [.lit (.bool true)], args := [d1, d2, d3] }
  | _ => none }
def wheelPartsRow : OpenClaim := { program := "ytnmbkopnopaigaa", sum := "48add66be7823d1f7f41e8c714c8d27ee6f5cb5ec0e6c3de4338e50c3932d753", func := "slopchest/slopchestlaw.WheelParts", spec := "wheelParts", inPlace := ["slices.overlaps[slopchest/api.Timer]"], unfollowed := true, recurses := true, apart := false }
def WheelPartsSaid : Prop := wheelPartsRow.holds Try.pinned (OpenSpec.ofChange wheelPartsSpec)

/-- ITS FALSE NEIGHBOUR: 'it returns false'. Refute it at one input. -/
def wheelPartsWrong : ChangeSpec := { name := "wheelParts", fn := fun _ => fun
  | [d1, d2, d3] => { results := [.lit (.bool false)], args := [d1, d2, d3] }
  | _ => none }
def WheelPartsWrongFalsely : Prop := wheelPartsRow.holds Try.pinned (OpenSpec.ofChange wheelPartsWrong)

/-- 'slopchestlaw.WheelDue': WHATEVER THE INPUT: true; the input reads as it did. -/
def wheelDueSpec : ChangeSpec := { name := "wheelDue", fn := fun _ => fun
  | [d1, d2] => { results := [.lit (.bool true)], args := [d1, d2] }
  | _ => none }
def wheelDueRow : OpenClaim := { program := "ytnmbkopnopaigaa", sum := "48add66be7823d1f7f41e8c714c8d27ee6f5cb5ec0e6c3de4338e50c3932d753", func := "slopchest/slopchestlaw.WheelDue", spec := "wheelDue", inPlace := ["slices.overlaps[slopchest/api.Timer]"], unfollowed := true, recurses := true, apart := false }
def WheelDueSaid : Prop := wheelDueRow.holds Try.pinned (OpenSpec.ofChange wheelDueSpec)

/-- ITS FALSE NEIGHBOUR: 'it returns false'. Refute it at one input. -/
def wheelDueWrong : ChangeSpec := { name := "wheelDue", fn := fun _ => fun
  | [d1, d2] => { results := [.lit (.bool false)], args := [d1, d2] }
  | _ => none }
def WheelDueWrongFalsely : Prop := wheelDueRow.holds Try.pinned (OpenSpec.ofChange wheelDueWrong)

/-- 'slopchestlaw.WheelCancel': WHATEVER THE INPUT: true; the input reads as it did. -/
def wheelCancelSpec : ChangeSpec := { name := "wheelCancel", fn := fun _ => fun
  | [d1, d2, d3] => { results := [.lit (.bool true)], args := [d1, d2, d3] }
  | _ => none }
def wheelCancelRow : OpenClaim := { program := "ytnmbkopnopaigaa", sum := "48add66be7823d1f7f41e8c714c8d27ee6f5cb5ec0e6c3de4338e50c3932d753", func := "slopchest/slopchestlaw.WheelCancel", spec := "wheelCancel", inPlace := ["slices.overlaps[slopchest/api.Timer]"], unfollowed := true, recurses := true, apart := false }
def WheelCancelSaid : Prop := wheelCancelRow.holds Try.pinned (OpenSpec.ofChange wheelCancelSpec)

/-- ITS FALSE NEIGHBOUR: 'it returns false'. Refute it at one input. -/
def wheelCancelWrong : ChangeSpec := { name := "wheelCancel", fn := fun _ => fun
  | [d1, d2, d3] => { results := [.lit (.bool false)], args := [d1, d2, d3] }
  | _ => none }
def WheelCancelWrongFalsely : Prop := wheelCancelRow.holds Try.pinned (OpenSpec.ofChange wheelCancelWrong)

/-- 'slopchesttop.TopCounted': WHATEVER THE INPUT: true; the input reads as it did. -/
def topCountedSpec : ChangeSpec := { name := "topCounted", fn := fun _ => fun
  | [d1, d2, d3, d4] => { results := [.lit (.bool true)], args := [d1, d2, d3, d4] }
  | _ => none }
def topCountedRow : OpenClaim := { program := "ytnmbkopnopaigaa", sum := "48add66be7823d1f7f41e8c714c8d27ee6f5cb5ec0e6c3de4338e50c3932d753", func := "slopchest/slopchesttop.TopCounted", spec := "topCounted", inPlace := ["slices.overlaps[int]", "slices.overlaps[slopchest/api.Use]"], unfollowed := true, recurses := true, apart := false }
def TopCountedSaid : Prop := topCountedRow.holds Try.pinned (OpenSpec.ofChange topCountedSpec)

/-- ITS FALSE NEIGHBOUR: 'it returns false'. Refute it at one input. -/
def topCountedWrong : ChangeSpec := { name := "topCounted", fn := fun _ => fun
  | [d1, d2, d3, d4] => { results := [.lit (.bool false)], args := [d1, d2, d3, d4] }
  | _ => none }
def TopCountedWrongFalsely : Prop := topCountedRow.holds Try.pinned (OpenSpec.ofChange topCountedWrong)

/-- 'slopchesttop.TopTimers': WHATEVER THE INPUT: true; the input reads as it did. -/
def topTimersSpec : ChangeSpec := { name := "topTimers", fn := fun _ => fun
  | [d1, d2, d3, d4] => { results := [.lit (.bool true)], args := [d1, d2, d3, d4] }
  | _ => none }
def topTimersRow : OpenClaim := { program := "ytnmbkopnopaigaa", sum := "48add66be7823d1f7f41e8c714c8d27ee6f5cb5ec0e6c3de4338e50c3932d753", func := "slopchest/slopchesttop.TopTimers", spec := "topTimers", inPlace := ["slices.overlaps[int]", "slices.overlaps[slopchest/api.Timer]", "slices.overlaps[slopchest/api.Entry]"], unfollowed := true, recurses := true, apart := false }
def TopTimersSaid : Prop := topTimersRow.holds Try.pinned (OpenSpec.ofChange topTimersSpec)

/-- ITS FALSE NEIGHBOUR: 'it returns false'. Refute it at one input. -/
def topTimersWrong : ChangeSpec := { name := "topTimers", fn := fun _ => fun
  | [d1, d2, d3, d4] => { results := [.lit (.bool false)], args := [d1, d2, d3, d4] }
  | _ => none }
def TopTimersWrongFalsely : Prop := topTimersRow.holds Try.pinned (OpenSpec.ofChange topTimersWrong)

/- THE SECOND FORM. 'bulk': how many values and letters a reading holds, each counted each time it is reached (what is shared counts as often as it is met; a slice's spare places count too). A statement '..UptoSaid' is the law's where the arguments, and the package variables that the reading takes, are together of bulk at most 1048576: NARROWER than '..Said'. Prove '..Said' where nothing that the law and all that it calls make is longer than what came in: it says more and counts as full. Else prove '..UptoSaid'. A law counts once. -/
mutual
def uptoBulk {H : Type} : DataW H → Nat
  | .lit (.string bytes) => bytes.length + 1
  | .lit _ => 1
  | .nil => 1
  | .ptr d => uptoBulk d + 1
  | .slice elems spare => uptoBulkAll elems + uptoBulkAll spare + 1
  | .agg parts => uptoBulkAll parts + 1
  | .iface _ d => uptoBulk d + 1
  | .map entries => uptoBulkEntries entries + 1
  | .held _ => 1
def uptoBulkAll {H : Type} : List (DataW H) → Nat
  | [] => 0
  | d :: r => uptoBulk d + uptoBulkAll r
def uptoBulkEntries {H : Type} : List (Lit × DataW H) → Nat
  | [] => 0
  | x :: r => uptoBulkEntry x + uptoBulkEntries r
def uptoBulkEntry {H : Type} : Lit × DataW H → Nat
  | (.string bytes, d) => bytes.length + uptoBulk d + 1
  | (_, d) => uptoBulk d + 1
 end
def uptoSmall : (H : Type) → List (DataW H) → Bool := fun _ ds => decide (uptoBulkAll ds ≤ 1048576)
def OpenSpec.upto (s : _root_.Go.ChangeSpec) : _root_.Go.OpenSpec := { _root_.Go.OpenSpec.ofChange s with cond := some uptoSmall }

/-- 'slopchestlaw.SketchSpec', WHERE WHAT IT READS IS OF BULK AT MOST 1048576: true; the input reads as it did. -/
def sketchSpecUptoRow : OpenClaim := { program := "ytnmbkopnopaigaa", sum := "48add66be7823d1f7f41e8c714c8d27ee6f5cb5ec0e6c3de4338e50c3932d753", func := "slopchest/slopchestlaw.SketchSpec", spec := "sketchSpec", unfollowed := true, recurses := true, apart := false, narrowed := true }
def SketchSpecUptoSaid : Prop := sketchSpecUptoRow.holds Try.pinned (OpenSpec.upto sketchSpecSpec)

/-- 'slopchestlaw.SketchEstimate', WHERE WHAT IT READS IS OF BULK AT MOST 1048576: true; the input reads as it did. -/
def sketchEstimateUptoRow : OpenClaim := { program := "ytnmbkopnopaigaa", sum := "48add66be7823d1f7f41e8c714c8d27ee6f5cb5ec0e6c3de4338e50c3932d753", func := "slopchest/slopchestlaw.SketchEstimate", spec := "sketchEstimate", unfollowed := true, recurses := true, apart := false, narrowed := true }
def SketchEstimateUptoSaid : Prop := sketchEstimateUptoRow.holds Try.pinned (OpenSpec.upto sketchEstimateSpec)

/-- 'slopchestlaw.SketchMerge', WHERE WHAT IT READS IS OF BULK AT MOST 1048576: true; the input reads as it did. -/
def sketchMergeUptoRow : OpenClaim := { program := "ytnmbkopnopaigaa", sum := "48add66be7823d1f7f41e8c714c8d27ee6f5cb5ec0e6c3de4338e50c3932d753", func := "slopchest/slopchestlaw.SketchMerge", spec := "sketchMerge", unfollowed := true, recurses := true, apart := false, narrowed := true }
def SketchMergeUptoSaid : Prop := sketchMergeUptoRow.holds Try.pinned (OpenSpec.upto sketchMergeSpec)

/-- 'slopchestlaw.SketchAdds', WHERE WHAT IT READS IS OF BULK AT MOST 1048576: true; the input reads as it did. -/
def sketchAddsUptoRow : OpenClaim := { program := "ytnmbkopnopaigaa", sum := "48add66be7823d1f7f41e8c714c8d27ee6f5cb5ec0e6c3de4338e50c3932d753", func := "slopchest/slopchestlaw.SketchAdds", spec := "sketchAdds", unfollowed := true, recurses := true, apart := false, narrowed := true }
def SketchAddsUptoSaid : Prop := sketchAddsUptoRow.holds Try.pinned (OpenSpec.upto sketchAddsSpec)

/-- 'slopchestlaw.WheelSpec', WHERE WHAT IT READS IS OF BULK AT MOST 1048576: true; the input reads as it did. -/
def wheelSpecUptoRow : OpenClaim := { program := "ytnmbkopnopaigaa", sum := "48add66be7823d1f7f41e8c714c8d27ee6f5cb5ec0e6c3de4338e50c3932d753", func := "slopchest/slopchestlaw.WheelSpec", spec := "wheelSpec", inPlace := ["slices.overlaps[slopchest/api.Timer]"], unfollowed := true, recurses := true, apart := false, narrowed := true }
def WheelSpecUptoSaid : Prop := wheelSpecUptoRow.holds Try.pinned (OpenSpec.upto wheelSpecSpec)

/-- 'slopchestlaw.WheelParts', WHERE WHAT IT READS IS OF BULK AT MOST 1048576: true; the input reads as it did. -/
def wheelPartsUptoRow : OpenClaim := { program := "ytnmbkopnopaigaa", sum := "48add66be7823d1f7f41e8c714c8d27ee6f5cb5ec0e6c3de4338e50c3932d753", func := "slopchest/slopchestlaw.WheelParts", spec := "wheelParts", inPlace := ["slices.overlaps[slopchest/api.Timer]"], unfollowed := true, recurses := true, apart := false, narrowed := true }
def WheelPartsUptoSaid : Prop := wheelPartsUptoRow.holds Try.pinned (OpenSpec.upto wheelPartsSpec)

/-- 'slopchestlaw.WheelDue', WHERE WHAT IT READS IS OF BULK AT MOST 1048576: true; the input reads as it did. -/
def wheelDueUptoRow : OpenClaim := { program := "ytnmbkopnopaigaa", sum := "48add66be7823d1f7f41e8c714c8d27ee6f5cb5ec0e6c3de4338e50c3932d753", func := "slopchest/slopchestlaw.WheelDue", spec := "wheelDue", inPlace := ["slices.overlaps[slopchest/api.Timer]"], unfollowed := true, recurses := true, apart := false, narrowed := true }
def WheelDueUptoSaid : Prop := wheelDueUptoRow.holds Try.pinned (OpenSpec.upto wheelDueSpec)

/-- 'slopchestlaw.WheelCancel', WHERE WHAT IT READS IS OF BULK AT MOST 1048576: true; the input reads as it did. -/
def wheelCancelUptoRow : OpenClaim := { program := "ytnmbkopnopaigaa", sum := "48add66be7823d1f7f41e8c714c8d27ee6f5cb5ec0e6c3de4338e50c3932d753", func := "slopchest/slopchestlaw.WheelCancel", spec := "wheelCancel", inPlace := ["slices.overlaps[slopchest/api.Timer]"], unfollowed := true, recurses := true, apart := false, narrowed := true }
def WheelCancelUptoSaid : Prop := wheelCancelUptoRow.holds Try.pinned (OpenSpec.upto wheelCancelSpec)

/-- 'slopchesttop.TopCounted', WHERE WHAT IT READS IS OF BULK AT MOST 1048576: true; the input reads as it did. -/
def topCountedUptoRow : OpenClaim := { program := "ytnmbkopnopaigaa", sum := "48add66be7823d1f7f41e8c714c8d27ee6f5cb5ec0e6c3de4338e50c3932d753", func := "slopchest/slopchesttop.TopCounted", spec := "topCounted", inPlace := ["slices.overlaps[int]", "slices.overlaps[slopchest/api.Use]"], unfollowed := true, recurses := true, apart := false, narrowed := true }
def TopCountedUptoSaid : Prop := topCountedUptoRow.holds Try.pinned (OpenSpec.upto topCountedSpec)

/-- 'slopchesttop.TopTimers', WHERE WHAT IT READS IS OF BULK AT MOST 1048576: true; the input reads as it did. -/
def topTimersUptoRow : OpenClaim := { program := "ytnmbkopnopaigaa", sum := "48add66be7823d1f7f41e8c714c8d27ee6f5cb5ec0e6c3de4338e50c3932d753", func := "slopchest/slopchesttop.TopTimers", spec := "topTimers", inPlace := ["slices.overlaps[int]", "slices.overlaps[slopchest/api.Timer]", "slices.overlaps[slopchest/api.Entry]"], unfollowed := true, recurses := true, apart := false, narrowed := true }
def TopTimersUptoSaid : Prop := topTimersUptoRow.holds Try.pinned (OpenSpec.upto topTimersSpec)

end Rows
end Go.Proofs.Ytnmbkopnopaigaa
