/-
  No cell of these rows narrows 'for every input' (looked for: loops, veiled, ifaces, maps, wideKeys, modest, calm, conditions, laid).
  DERIVED. THE GIVEN ROWS OF THIS SEAT. 12 by the template 'for every input the law returns true; each argument reads behind the call as it read before'; 0 by the template 'total and deterministic' (their statements: YthbfdhphnofacacTotals.lean).
  GIVEN WITH THE SEED: the statements are not yours to turn. If you find one false, say at which input.
  Laid BY PROGRAM, IN A SANDBOX (cutbox-rows.mjs): the forced cells as the released guide's own fill.sh prints them over the translation d61d506edc209538… (all of the seat's roots in one cut). By AI agents, Wed Nov 11 2026. No macro, syntax, notation, axiom, sorry.
-/
import Derived.Test.YthbfdhphnofacacChecked
import GoSem.Claim
import GoSem.ClaimJoined
import GoSem.ClaimMapViews
import Derived.JoinedTies
import Derived.KernelRfl
namespace Go.Proofs.Ythbfdhphnofacac
/- THE CELL 'sum', in the pinned program and in every row, IS THE sha256 OF THE DUMP (.gsa) THAT YthbfdhphnofacacProg.lean LOADS. Nothing in Lean hashes anything: it is a label: what it is worth is what the hold of that sum in a sandbox is worth. -/
noncomputable def Try.pinned : Pinned := { name := "ythbfdhphnofacac", sum := "d61d506edc209538c3db674b4a7186e205bd6cf4fb69c7cb7f0c2e12ad7feb47", checked := Try.checked }
namespace Rows
def none {H : Type} : Left H := { results := [], args := [] }

/-- 'slopchestlaw.TableStores': WHATEVER THE INPUT: true; the input reads as it did. -/
def tableStoresSpec : ChangeSpec := { name := "tableStores", fn := fun _ => fun
  | [d1, d2, d3, d4] => { results := [.lit (.bool true)], args := [d1, d2, d3, d4] }
  | _ => none }
def tableStoresRow : OpenClaim := { program := "ythbfdhphnofacac", sum := "d61d506edc209538c3db674b4a7186e205bd6cf4fb69c7cb7f0c2e12ad7feb47", func := "slopchest/slopchestlaw.TableStores", spec := "tableStores", unfollowed := true, recurses := true, apart := false }
def TableStoresSaid : Prop := tableStoresRow.holds Try.pinned (OpenSpec.ofChange tableStoresSpec)

/-- ITS FALSE NEIGHBOUR: 'it returns false'. Refute it at one input. -/
def tableStoresWrong : ChangeSpec := { name := "tableStores", fn := fun _ => fun
  | [d1, d2, d3, d4] => { results := [.lit (.bool false)], args := [d1, d2, d3, d4] }
  | _ => none }
def TableStoresWrongFalsely : Prop := tableStoresRow.holds Try.pinned (OpenSpec.ofChange tableStoresWrong)

/-- 'slopchestlaw.TableResizes': WHATEVER THE INPUT: true; the input reads as it did. -/
def tableResizesSpec : ChangeSpec := { name := "tableResizes", fn := fun _ => fun
  | [d1, d2, d3] => { results := [.lit (.bool true)], args := [d1, d2, d3] }
  | _ => none }
def tableResizesRow : OpenClaim := { program := "ythbfdhphnofacac", sum := "d61d506edc209538c3db674b4a7186e205bd6cf4fb69c7cb7f0c2e12ad7feb47", func := "slopchest/slopchestlaw.TableResizes", spec := "tableResizes", unfollowed := true, recurses := true, apart := false }
def TableResizesSaid : Prop := tableResizesRow.holds Try.pinned (OpenSpec.ofChange tableResizesSpec)

/-- ITS FALSE NEIGHBOUR: 'it returns false'. Refute it at one input. -/
def tableResizesWrong : ChangeSpec := { name := "tableResizes", fn := fun _ => fun
  | [d1, d2, d3] => { results := [.lit (.bool false)], args := [d1, d2, d3] }
  | _ => none }
def TableResizesWrongFalsely : Prop := tableResizesRow.holds Try.pinned (OpenSpec.ofChange tableResizesWrong)

/-- 'slopchestlaw.TableOrder': WHATEVER THE INPUT: true; the input reads as it did. -/
def tableOrderSpec : ChangeSpec := { name := "tableOrder", fn := fun _ => fun
  | [d1, d2, d3, d4, d5] => { results := [.lit (.bool true)], args := [d1, d2, d3, d4, d5] }
  | _ => none }
def tableOrderRow : OpenClaim := { program := "ythbfdhphnofacac", sum := "d61d506edc209538c3db674b4a7186e205bd6cf4fb69c7cb7f0c2e12ad7feb47", func := "slopchest/slopchestlaw.TableOrder", spec := "tableOrder", unfollowed := true, recurses := true, apart := false }
def TableOrderSaid : Prop := tableOrderRow.holds Try.pinned (OpenSpec.ofChange tableOrderSpec)

/-- ITS FALSE NEIGHBOUR: 'it returns false'. Refute it at one input. -/
def tableOrderWrong : ChangeSpec := { name := "tableOrder", fn := fun _ => fun
  | [d1, d2, d3, d4, d5] => { results := [.lit (.bool false)], args := [d1, d2, d3, d4, d5] }
  | _ => none }
def TableOrderWrongFalsely : Prop := tableOrderRow.holds Try.pinned (OpenSpec.ofChange tableOrderWrong)

/-- 'slopchestlaw.SketchSpec': WHATEVER THE INPUT: true; the input reads as it did. -/
def sketchSpecSpec : ChangeSpec := { name := "sketchSpec", fn := fun _ => fun
  | [d1, d2, d3, d4] => { results := [.lit (.bool true)], args := [d1, d2, d3, d4] }
  | _ => none }
def sketchSpecRow : OpenClaim := { program := "ythbfdhphnofacac", sum := "d61d506edc209538c3db674b4a7186e205bd6cf4fb69c7cb7f0c2e12ad7feb47", func := "slopchest/slopchestlaw.SketchSpec", spec := "sketchSpec", unfollowed := true, recurses := true, apart := false }
def SketchSpecSaid : Prop := sketchSpecRow.holds Try.pinned (OpenSpec.ofChange sketchSpecSpec)

/-- ITS FALSE NEIGHBOUR: 'it returns false'. Refute it at one input. -/
def sketchSpecWrong : ChangeSpec := { name := "sketchSpec", fn := fun _ => fun
  | [d1, d2, d3, d4] => { results := [.lit (.bool false)], args := [d1, d2, d3, d4] }
  | _ => none }
def SketchSpecWrongFalsely : Prop := sketchSpecRow.holds Try.pinned (OpenSpec.ofChange sketchSpecWrong)

/-- 'slopchestlaw.SketchEstimate': WHATEVER THE INPUT: true; the input reads as it did. -/
def sketchEstimateSpec : ChangeSpec := { name := "sketchEstimate", fn := fun _ => fun
  | [d1, d2, d3, d4] => { results := [.lit (.bool true)], args := [d1, d2, d3, d4] }
  | _ => none }
def sketchEstimateRow : OpenClaim := { program := "ythbfdhphnofacac", sum := "d61d506edc209538c3db674b4a7186e205bd6cf4fb69c7cb7f0c2e12ad7feb47", func := "slopchest/slopchestlaw.SketchEstimate", spec := "sketchEstimate", unfollowed := true, recurses := true, apart := false }
def SketchEstimateSaid : Prop := sketchEstimateRow.holds Try.pinned (OpenSpec.ofChange sketchEstimateSpec)

/-- ITS FALSE NEIGHBOUR: 'it returns false'. Refute it at one input. -/
def sketchEstimateWrong : ChangeSpec := { name := "sketchEstimate", fn := fun _ => fun
  | [d1, d2, d3, d4] => { results := [.lit (.bool false)], args := [d1, d2, d3, d4] }
  | _ => none }
def SketchEstimateWrongFalsely : Prop := sketchEstimateRow.holds Try.pinned (OpenSpec.ofChange sketchEstimateWrong)

/-- 'slopchestlaw.SketchMerge': WHATEVER THE INPUT: true; the input reads as it did. -/
def sketchMergeSpec : ChangeSpec := { name := "sketchMerge", fn := fun _ => fun
  | [d1, d2, d3, d4] => { results := [.lit (.bool true)], args := [d1, d2, d3, d4] }
  | _ => none }
def sketchMergeRow : OpenClaim := { program := "ythbfdhphnofacac", sum := "d61d506edc209538c3db674b4a7186e205bd6cf4fb69c7cb7f0c2e12ad7feb47", func := "slopchest/slopchestlaw.SketchMerge", spec := "sketchMerge", unfollowed := true, recurses := true, apart := false }
def SketchMergeSaid : Prop := sketchMergeRow.holds Try.pinned (OpenSpec.ofChange sketchMergeSpec)

/-- ITS FALSE NEIGHBOUR: 'it returns false'. Refute it at one input. -/
def sketchMergeWrong : ChangeSpec := { name := "sketchMerge", fn := fun _ => fun
  | [d1, d2, d3, d4] => { results := [.lit (.bool false)], args := [d1, d2, d3, d4] }
  | _ => none }
def SketchMergeWrongFalsely : Prop := sketchMergeRow.holds Try.pinned (OpenSpec.ofChange sketchMergeWrong)

/-- 'slopchestlaw.SketchAdds': WHATEVER THE INPUT: true; the input reads as it did. -/
def sketchAddsSpec : ChangeSpec := { name := "sketchAdds", fn := fun _ => fun
  | [d1, d2, d3, d4] => { results := [.lit (.bool true)], args := [d1, d2, d3, d4] }
  | _ => none }
def sketchAddsRow : OpenClaim := { program := "ythbfdhphnofacac", sum := "d61d506edc209538c3db674b4a7186e205bd6cf4fb69c7cb7f0c2e12ad7feb47", func := "slopchest/slopchestlaw.SketchAdds", spec := "sketchAdds", unfollowed := true, recurses := true, apart := false }
def SketchAddsSaid : Prop := sketchAddsRow.holds Try.pinned (OpenSpec.ofChange sketchAddsSpec)

/-- ITS FALSE NEIGHBOUR: 'it returns false'. Refute it at one input. -/
def sketchAddsWrong : ChangeSpec := { name := "sketchAdds", fn := fun _ => fun
  | [d1, d2, d3, d4] => { results := [.lit (.bool false)], args := [d1, d2, d3, d4] }
  | _ => none }
def SketchAddsWrongFalsely : Prop := sketchAddsRow.holds Try.pinned (OpenSpec.ofChange sketchAddsWrong)

/-- 'slopchestlaw.DistanceRepeat': WHATEVER THE INPUT: true; the input reads as it did. -/
def distanceRepeatSpec : ChangeSpec := { name := "distanceRepeat", fn := fun _ => fun
  | [d] => { results := [.lit (.bool true)], args := [d] }
  | _ => none }
def distanceRepeatRow : OpenClaim := { program := "ythbfdhphnofacac", sum := "d61d506edc209538c3db674b4a7186e205bd6cf4fb69c7cb7f0c2e12ad7feb47", func := "slopchest/slopchestlaw.DistanceRepeat", spec := "distanceRepeat", inPlace := ["slices.overlaps[int]"], unfollowed := true, recurses := true, apart := false }
def DistanceRepeatSaid : Prop := distanceRepeatRow.holds Try.pinned (OpenSpec.ofChange distanceRepeatSpec)

/-- ITS FALSE NEIGHBOUR: 'it returns false'. Refute it at one input. -/
def distanceRepeatWrong : ChangeSpec := { name := "distanceRepeat", fn := fun _ => fun
  | [d] => { results := [.lit (.bool false)], args := [d] }
  | _ => none }
def DistanceRepeatWrongFalsely : Prop := distanceRepeatRow.holds Try.pinned (OpenSpec.ofChange distanceRepeatWrong)

/-- 'slopchestlaw.DistanceSpec': WHATEVER THE INPUT: true; the input reads as it did. -/
def distanceSpecSpec : ChangeSpec := { name := "distanceSpec", fn := fun _ => fun
  | [d1, d2] => { results := [.lit (.bool true)], args := [d1, d2] }
  | _ => none }
def distanceSpecRow : OpenClaim := { program := "ythbfdhphnofacac", sum := "d61d506edc209538c3db674b4a7186e205bd6cf4fb69c7cb7f0c2e12ad7feb47", func := "slopchest/slopchestlaw.DistanceSpec", spec := "distanceSpec", inPlace := ["slices.overlaps[int]"], unfollowed := true, recurses := true, apart := false }
def DistanceSpecSaid : Prop := distanceSpecRow.holds Try.pinned (OpenSpec.ofChange distanceSpecSpec)

/-- ITS FALSE NEIGHBOUR: 'it returns false'. Refute it at one input. -/
def distanceSpecWrong : ChangeSpec := { name := "distanceSpec", fn := fun _ => fun
  | [d1, d2] => { results := [.lit (.bool false)], args := [d1, d2] }
  | _ => none }
def DistanceSpecWrongFalsely : Prop := distanceSpecRow.holds Try.pinned (OpenSpec.ofChange distanceSpecWrong)

/-- 'slopchestlaw.DistanceMonotone': WHATEVER THE INPUT: true; the input reads as it did. -/
def distanceMonotoneSpec : ChangeSpec := { name := "distanceMonotone", fn := fun _ => fun
  | [d1, d2, d3] => { results := [.lit (.bool true)], args := [d1, d2, d3] }
  | _ => none }
def distanceMonotoneRow : OpenClaim := { program := "ythbfdhphnofacac", sum := "d61d506edc209538c3db674b4a7186e205bd6cf4fb69c7cb7f0c2e12ad7feb47", func := "slopchest/slopchestlaw.DistanceMonotone", spec := "distanceMonotone", inPlace := ["slices.overlaps[int]"], unfollowed := true, recurses := true, apart := false }
def DistanceMonotoneSaid : Prop := distanceMonotoneRow.holds Try.pinned (OpenSpec.ofChange distanceMonotoneSpec)

/-- ITS FALSE NEIGHBOUR: 'it returns false'. Refute it at one input. -/
def distanceMonotoneWrong : ChangeSpec := { name := "distanceMonotone", fn := fun _ => fun
  | [d1, d2, d3] => { results := [.lit (.bool false)], args := [d1, d2, d3] }
  | _ => none }
def DistanceMonotoneWrongFalsely : Prop := distanceMonotoneRow.holds Try.pinned (OpenSpec.ofChange distanceMonotoneWrong)

/-- 'slopchesttop.TopSets': WHATEVER THE INPUT: true; the input reads as it did. -/
def topSetsSpec : ChangeSpec := { name := "topSets", fn := fun _ => fun
  | [d1, d2] => { results := [.lit (.bool true)], args := [d1, d2] }
  | _ => none }
def topSetsRow : OpenClaim := { program := "ythbfdhphnofacac", sum := "d61d506edc209538c3db674b4a7186e205bd6cf4fb69c7cb7f0c2e12ad7feb47", func := "slopchest/slopchesttop.TopSets", spec := "topSets", inPlace := ["slices.overlaps[int]"], unfollowed := true, recurses := true, apart := false }
def TopSetsSaid : Prop := topSetsRow.holds Try.pinned (OpenSpec.ofChange topSetsSpec)

/-- ITS FALSE NEIGHBOUR: 'it returns false'. Refute it at one input. -/
def topSetsWrong : ChangeSpec := { name := "topSets", fn := fun _ => fun
  | [d1, d2] => { results := [.lit (.bool false)], args := [d1, d2] }
  | _ => none }
def TopSetsWrongFalsely : Prop := topSetsRow.holds Try.pinned (OpenSpec.ofChange topSetsWrong)

/-- 'slopchestlaw.LruSpec': WHATEVER THE INPUT: true; the input reads as it did. -/
def lruSpecSpec : ChangeSpec := { name := "lruSpec", fn := fun _ => fun
  | [d1, d2, d3, d4] => { results := [.lit (.bool true)], args := [d1, d2, d3, d4] }
  | _ => none }
def lruSpecRow : OpenClaim := { program := "ythbfdhphnofacac", sum := "d61d506edc209538c3db674b4a7186e205bd6cf4fb69c7cb7f0c2e12ad7feb47", func := "slopchest/slopchestlaw.LruSpec", spec := "lruSpec", inPlace := ["slices.overlaps[int]"], unfollowed := true, recurses := true, apart := false }
def LruSpecSaid : Prop := lruSpecRow.holds Try.pinned (OpenSpec.ofChange lruSpecSpec)

/-- ITS FALSE NEIGHBOUR: 'it returns false'. Refute it at one input. -/
def lruSpecWrong : ChangeSpec := { name := "lruSpec", fn := fun _ => fun
  | [d1, d2, d3, d4] => { results := [.lit (.bool false)], args := [d1, d2, d3, d4] }
  | _ => none }
def LruSpecWrongFalsely : Prop := lruSpecRow.holds Try.pinned (OpenSpec.ofChange lruSpecWrong)

/- THE SECOND FORM. 'bulk': how many values and letters a reading holds, each counted each time it is reached (what is shared counts as often as it is met; a slice's spare places count too). A statement '..UptoSaid' is the law's where the arguments, and the package variables that the reading takes, are together of bulk at most 1048576: NARROWER than '..Said'. Prove '..Said' where nothing that the law and all that it calls make is longer than what came in: it says more and counts as full. Else prove '..UptoSaid'. A law counts once. -/
mutual
def uptoBulk {H : Type} : DataW H → Nat
  | .lit (.string bytes) => bytes.length + 1
  | .lit _ => 1
  | .nil => 1
  | .ptr d => uptoBulk d + 1
  | .slice elems spare => uptoBulkAll elems + uptoBulkAll spare + 1
  | .agg parts => uptoBulkAll parts + 1
  | .iface _ d => uptoBulk d + 1
  | .map entries => uptoBulkEntries entries + 1
  | .held _ => 1
def uptoBulkAll {H : Type} : List (DataW H) → Nat
  | [] => 0
  | d :: r => uptoBulk d + uptoBulkAll r
def uptoBulkEntries {H : Type} : List (Lit × DataW H) → Nat
  | [] => 0
  | x :: r => uptoBulkEntry x + uptoBulkEntries r
def uptoBulkEntry {H : Type} : Lit × DataW H → Nat
  | (.string bytes, d) => bytes.length + uptoBulk d + 1
  | (_, d) => uptoBulk d + 1
 end
def uptoSmall : (H : Type) → List (DataW H) → Bool := fun _ ds => decide (uptoBulkAll ds ≤ 1048576)
def OpenSpec.upto (s : _root_.Go.ChangeSpec) : _root_.Go.OpenSpec := { _root_.Go.OpenSpec.ofChange s with cond := some uptoSmall }

/-- 'slopchestlaw.TableStores', WHERE WHAT IT READS IS OF BULK AT MOST 1048576: true; the input reads as it did. -/
def tableStoresUptoRow : OpenClaim := { program := "ythbfdhphnofacac", sum := "d61d506edc209538c3db674b4a7186e205bd6cf4fb69c7cb7f0c2e12ad7feb47", func := "slopchest/slopchestlaw.TableStores", spec := "tableStores", unfollowed := true, recurses := true, apart := false, narrowed := true }
def TableStoresUptoSaid : Prop := tableStoresUptoRow.holds Try.pinned (OpenSpec.upto tableStoresSpec)

/-- 'slopchestlaw.TableResizes', WHERE WHAT IT READS IS OF BULK AT MOST 1048576: true; the input reads as it did. -/
def tableResizesUptoRow : OpenClaim := { program := "ythbfdhphnofacac", sum := "d61d506edc209538c3db674b4a7186e205bd6cf4fb69c7cb7f0c2e12ad7feb47", func := "slopchest/slopchestlaw.TableResizes", spec := "tableResizes", unfollowed := true, recurses := true, apart := false, narrowed := true }
def TableResizesUptoSaid : Prop := tableResizesUptoRow.holds Try.pinned (OpenSpec.upto tableResizesSpec)

/-- 'slopchestlaw.TableOrder', WHERE WHAT IT READS IS OF BULK AT MOST 1048576: true; the input reads as it did. -/
def tableOrderUptoRow : OpenClaim := { program := "ythbfdhphnofacac", sum := "d61d506edc209538c3db674b4a7186e205bd6cf4fb69c7cb7f0c2e12ad7feb47", func := "slopchest/slopchestlaw.TableOrder", spec := "tableOrder", unfollowed := true, recurses := true, apart := false, narrowed := true }
def TableOrderUptoSaid : Prop := tableOrderUptoRow.holds Try.pinned (OpenSpec.upto tableOrderSpec)

/-- 'slopchestlaw.SketchSpec', WHERE WHAT IT READS IS OF BULK AT MOST 1048576: true; the input reads as it did. -/
def sketchSpecUptoRow : OpenClaim := { program := "ythbfdhphnofacac", sum := "d61d506edc209538c3db674b4a7186e205bd6cf4fb69c7cb7f0c2e12ad7feb47", func := "slopchest/slopchestlaw.SketchSpec", spec := "sketchSpec", unfollowed := true, recurses := true, apart := false, narrowed := true }
def SketchSpecUptoSaid : Prop := sketchSpecUptoRow.holds Try.pinned (OpenSpec.upto sketchSpecSpec)

/-- 'slopchestlaw.SketchEstimate', WHERE WHAT IT READS IS OF BULK AT MOST 1048576: true; the input reads as it did. -/
def sketchEstimateUptoRow : OpenClaim := { program := "ythbfdhphnofacac", sum := "d61d506edc209538c3db674b4a7186e205bd6cf4fb69c7cb7f0c2e12ad7feb47", func := "slopchest/slopchestlaw.SketchEstimate", spec := "sketchEstimate", unfollowed := true, recurses := true, apart := false, narrowed := true }
def SketchEstimateUptoSaid : Prop := sketchEstimateUptoRow.holds Try.pinned (OpenSpec.upto sketchEstimateSpec)

/-- 'slopchestlaw.SketchMerge', WHERE WHAT IT READS IS OF BULK AT MOST 1048576: true; the input reads as it did. -/
def sketchMergeUptoRow : OpenClaim := { program := "ythbfdhphnofacac", sum := "d61d506edc209538c3db674b4a7186e205bd6cf4fb69c7cb7f0c2e12ad7feb47", func := "slopchest/slopchestlaw.SketchMerge", spec := "sketchMerge", unfollowed := true, recurses := true, apart := false, narrowed := true }
def SketchMergeUptoSaid : Prop := sketchMergeUptoRow.holds Try.pinned (OpenSpec.upto sketchMergeSpec)

/-- 'slopchestlaw.SketchAdds', WHERE WHAT IT READS IS OF BULK AT MOST 1048576: true; the input reads as it did. -/
def sketchAddsUptoRow : OpenClaim := { program := "ythbfdhphnofacac", sum := "d61d506edc209538c3db674b4a7186e205bd6cf4fb69c7cb7f0c2e12ad7feb47", func := "slopchest/slopchestlaw.SketchAdds", spec := "sketchAdds", unfollowed := true, recurses := true, apart := false, narrowed := true }
def SketchAddsUptoSaid : Prop := sketchAddsUptoRow.holds Try.pinned (OpenSpec.upto sketchAddsSpec)

/-- 'slopchestlaw.DistanceRepeat', WHERE WHAT IT READS IS OF BULK AT MOST 1048576: true; the input reads as it did. -/
def distanceRepeatUptoRow : OpenClaim := { program := "ythbfdhphnofacac", sum := "d61d506edc209538c3db674b4a7186e205bd6cf4fb69c7cb7f0c2e12ad7feb47", func := "slopchest/slopchestlaw.DistanceRepeat", spec := "distanceRepeat", inPlace := ["slices.overlaps[int]"], unfollowed := true, recurses := true, apart := false, narrowed := true }
def DistanceRepeatUptoSaid : Prop := distanceRepeatUptoRow.holds Try.pinned (OpenSpec.upto distanceRepeatSpec)

/-- 'slopchestlaw.DistanceSpec', WHERE WHAT IT READS IS OF BULK AT MOST 1048576: true; the input reads as it did. -/
def distanceSpecUptoRow : OpenClaim := { program := "ythbfdhphnofacac", sum := "d61d506edc209538c3db674b4a7186e205bd6cf4fb69c7cb7f0c2e12ad7feb47", func := "slopchest/slopchestlaw.DistanceSpec", spec := "distanceSpec", inPlace := ["slices.overlaps[int]"], unfollowed := true, recurses := true, apart := false, narrowed := true }
def DistanceSpecUptoSaid : Prop := distanceSpecUptoRow.holds Try.pinned (OpenSpec.upto distanceSpecSpec)

/-- 'slopchestlaw.DistanceMonotone', WHERE WHAT IT READS IS OF BULK AT MOST 1048576: true; the input reads as it did. -/
def distanceMonotoneUptoRow : OpenClaim := { program := "ythbfdhphnofacac", sum := "d61d506edc209538c3db674b4a7186e205bd6cf4fb69c7cb7f0c2e12ad7feb47", func := "slopchest/slopchestlaw.DistanceMonotone", spec := "distanceMonotone", inPlace := ["slices.overlaps[int]"], unfollowed := true, recurses := true, apart := false, narrowed := true }
def DistanceMonotoneUptoSaid : Prop := distanceMonotoneUptoRow.holds Try.pinned (OpenSpec.upto distanceMonotoneSpec)

/-- 'slopchesttop.TopSets', WHERE WHAT IT READS IS OF BULK AT MOST 1048576: true; the input reads as it did. -/
def topSetsUptoRow : OpenClaim := { program := "ythbfdhphnofacac", sum := "d61d506edc209538c3db674b4a7186e205bd6cf4fb69c7cb7f0c2e12ad7feb47", func := "slopchest/slopchesttop.TopSets", spec := "topSets", inPlace := ["slices.overlaps[int]"], unfollowed := true, recurses := true, apart := false, narrowed := true }
def TopSetsUptoSaid : Prop := topSetsUptoRow.holds Try.pinned (OpenSpec.upto topSetsSpec)

/-- 'slopchestlaw.LruSpec', WHERE WHAT IT READS IS OF BULK AT MOST 1048576: true; the input reads as it did. -/
def lruSpecUptoRow : OpenClaim := { program := "ythbfdhphnofacac", sum := "d61d506edc209538c3db674b4a7186e205bd6cf4fb69c7cb7f0c2e12ad7feb47", func := "slopchest/slopchestlaw.LruSpec", spec := "lruSpec", inPlace := ["slices.overlaps[int]"], unfollowed := true, recurses := true, apart := false, narrowed := true }
def LruSpecUptoSaid : Prop := lruSpecUptoRow.holds Try.pinned (OpenSpec.upto lruSpecSpec)

end Rows
end Go.Proofs.Ythbfdhphnofacac
