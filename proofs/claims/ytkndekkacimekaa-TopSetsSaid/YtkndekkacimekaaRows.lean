/-
  No cell of these rows narrows 'for every input' (looked for: loops, veiled, ifaces, maps, wideKeys, modest, calm, conditions, laid).
  DERIVED. THE GIVEN ROWS OF THIS SEAT. 12 by the template 'for every input the law returns true; each argument reads behind the call as it read before'; 0 by the template 'total and deterministic' (their statements: YtkndekkacimekaaTotals.lean).
  GIVEN WITH THE SEED: the statements are not yours to turn. If you find one false, say at which input.
  Laid BY PROGRAM, IN A SANDBOX (cutbox-rows.mjs): the forced cells as the released guide's own fill.sh prints them over the translation fa941bb7df7ed163… (all of the seat's roots in one cut). By AI agents, Wed Nov 11 2026. No macro, syntax, notation, axiom, sorry.
-/
import Derived.Test.YtkndekkacimekaaChecked
import GoSem.Claim
import GoSem.ClaimJoined
import GoSem.ClaimMapViews
import Derived.JoinedTies
import Derived.KernelRfl
namespace Go.Proofs.Ytkndekkacimekaa
/- THE CELL 'sum', in the pinned program and in every row, IS THE sha256 OF THE DUMP (.gsa) THAT YtkndekkacimekaaProg.lean LOADS. Nothing in Lean hashes anything: it is a label: what it is worth is what the hold of that sum in a sandbox is worth. -/
noncomputable def Try.pinned : Pinned := { name := "ytkndekkacimekaa", sum := "fa941bb7df7ed1638d025f0d1bca8fa7b647e762fd095370775b880debaec946", checked := Try.checked }
namespace Rows
def none {H : Type} : Left H := { results := [], args := [] }

/-- 'slopchestlaw.ExpireSpec': WHATEVER THE INPUT: true; the input reads as it did. -/
def expireSpecSpec : ChangeSpec := { name := "expireSpec", fn := fun _ => fun
  | [d1, d2, d3, d4] => { results := [.lit (.bool true)], args := [d1, d2, d3, d4] }
  | _ => none }
def expireSpecRow : OpenClaim := { program := "ytkndekkacimekaa", sum := "fa941bb7df7ed1638d025f0d1bca8fa7b647e762fd095370775b880debaec946", func := "slopchest/slopchestlaw.ExpireSpec", spec := "expireSpec", inPlace := ["slices.overlaps[slopchest/api.Entry]"], unfollowed := true, recurses := true, apart := false }
def ExpireSpecSaid : Prop := expireSpecRow.holds Try.pinned (OpenSpec.ofChange expireSpecSpec)

/-- ITS FALSE NEIGHBOUR: 'it returns false'. Refute it at one input. -/
def expireSpecWrong : ChangeSpec := { name := "expireSpec", fn := fun _ => fun
  | [d1, d2, d3, d4] => { results := [.lit (.bool false)], args := [d1, d2, d3, d4] }
  | _ => none }
def ExpireSpecWrongFalsely : Prop := expireSpecRow.holds Try.pinned (OpenSpec.ofChange expireSpecWrong)

/-- 'slopchestlaw.ExpireLifetime': WHATEVER THE INPUT: true; the input reads as it did. -/
def expireLifetimeSpec : ChangeSpec := { name := "expireLifetime", fn := fun _ => fun
  | [d1, d2, d3, d4, d5] => { results := [.lit (.bool true)], args := [d1, d2, d3, d4, d5] }
  | _ => none }
def expireLifetimeRow : OpenClaim := { program := "ytkndekkacimekaa", sum := "fa941bb7df7ed1638d025f0d1bca8fa7b647e762fd095370775b880debaec946", func := "slopchest/slopchestlaw.ExpireLifetime", spec := "expireLifetime", inPlace := ["slices.overlaps[slopchest/api.Entry]"], unfollowed := true, recurses := true, apart := false }
def ExpireLifetimeSaid : Prop := expireLifetimeRow.holds Try.pinned (OpenSpec.ofChange expireLifetimeSpec)

/-- ITS FALSE NEIGHBOUR: 'it returns false'. Refute it at one input. -/
def expireLifetimeWrong : ChangeSpec := { name := "expireLifetime", fn := fun _ => fun
  | [d1, d2, d3, d4, d5] => { results := [.lit (.bool false)], args := [d1, d2, d3, d4, d5] }
  | _ => none }
def ExpireLifetimeWrongFalsely : Prop := expireLifetimeRow.holds Try.pinned (OpenSpec.ofChange expireLifetimeWrong)

/-- 'slopchestlaw.ExpireSweeps': WHATEVER THE INPUT: true; the input reads as it did. -/
def expireSweepsSpec : ChangeSpec := { name := "expireSweeps", fn := fun _ => fun
  | [d1, d2, d3, d4] => { results := [.lit (.bool true)], args := [d1, d2, d3, d4] }
  | _ => none }
def expireSweepsRow : OpenClaim := { program := "ytkndekkacimekaa", sum := "fa941bb7df7ed1638d025f0d1bca8fa7b647e762fd095370775b880debaec946", func := "slopchest/slopchestlaw.ExpireSweeps", spec := "expireSweeps", inPlace := ["slices.overlaps[slopchest/api.Entry]"], unfollowed := true, recurses := true, apart := false }
def ExpireSweepsSaid : Prop := expireSweepsRow.holds Try.pinned (OpenSpec.ofChange expireSweepsSpec)

/-- ITS FALSE NEIGHBOUR: 'it returns false'. Refute it at one input. -/
def expireSweepsWrong : ChangeSpec := { name := "expireSweeps", fn := fun _ => fun
  | [d1, d2, d3, d4] => { results := [.lit (.bool false)], args := [d1, d2, d3, d4] }
  | _ => none }
def ExpireSweepsWrongFalsely : Prop := expireSweepsRow.holds Try.pinned (OpenSpec.ofChange expireSweepsWrong)

/-- 'slopchestlaw.ExpireOthers': WHATEVER THE INPUT: true; the input reads as it did. -/
def expireOthersSpec : ChangeSpec := { name := "expireOthers", fn := fun _ => fun
  | [d1, d2, d3, d4, d5, d6] => { results := [.lit (.bool true)], args := [d1, d2, d3, d4, d5, d6] }
  | _ => none }
def expireOthersRow : OpenClaim := { program := "ytkndekkacimekaa", sum := "fa941bb7df7ed1638d025f0d1bca8fa7b647e762fd095370775b880debaec946", func := "slopchest/slopchestlaw.ExpireOthers", spec := "expireOthers", inPlace := ["slices.overlaps[slopchest/api.Entry]"], unfollowed := true, recurses := true, apart := false }
def ExpireOthersSaid : Prop := expireOthersRow.holds Try.pinned (OpenSpec.ofChange expireOthersSpec)

/-- ITS FALSE NEIGHBOUR: 'it returns false'. Refute it at one input. -/
def expireOthersWrong : ChangeSpec := { name := "expireOthers", fn := fun _ => fun
  | [d1, d2, d3, d4, d5, d6] => { results := [.lit (.bool false)], args := [d1, d2, d3, d4, d5, d6] }
  | _ => none }
def ExpireOthersWrongFalsely : Prop := expireOthersRow.holds Try.pinned (OpenSpec.ofChange expireOthersWrong)

/-- 'slopchestlaw.DistanceRepeat': WHATEVER THE INPUT: true; the input reads as it did. -/
def distanceRepeatSpec : ChangeSpec := { name := "distanceRepeat", fn := fun _ => fun
  | [d] => { results := [.lit (.bool true)], args := [d] }
  | _ => none }
def distanceRepeatRow : OpenClaim := { program := "ytkndekkacimekaa", sum := "fa941bb7df7ed1638d025f0d1bca8fa7b647e762fd095370775b880debaec946", func := "slopchest/slopchestlaw.DistanceRepeat", spec := "distanceRepeat", inPlace := ["slices.overlaps[int]"], unfollowed := true, recurses := true, apart := false }
def DistanceRepeatSaid : Prop := distanceRepeatRow.holds Try.pinned (OpenSpec.ofChange distanceRepeatSpec)

/-- ITS FALSE NEIGHBOUR: 'it returns false'. Refute it at one input. -/
def distanceRepeatWrong : ChangeSpec := { name := "distanceRepeat", fn := fun _ => fun
  | [d] => { results := [.lit (.bool false)], args := [d] }
  | _ => none }
def DistanceRepeatWrongFalsely : Prop := distanceRepeatRow.holds Try.pinned (OpenSpec.ofChange distanceRepeatWrong)

/-- 'slopchestlaw.DistanceHits': WHATEVER THE INPUT: true; the input reads as it did. -/
def distanceHitsSpec : ChangeSpec := { name := "distanceHits", fn := fun _ => fun
  | [d1, d2] => { results := [.lit (.bool true)], args := [d1, d2] }
  | _ => none }
def distanceHitsRow : OpenClaim := { program := "ytkndekkacimekaa", sum := "fa941bb7df7ed1638d025f0d1bca8fa7b647e762fd095370775b880debaec946", func := "slopchest/slopchestlaw.DistanceHits", spec := "distanceHits", inPlace := ["slices.overlaps[int]"], unfollowed := true, recurses := true, apart := false }
def DistanceHitsSaid : Prop := distanceHitsRow.holds Try.pinned (OpenSpec.ofChange distanceHitsSpec)

/-- ITS FALSE NEIGHBOUR: 'it returns false'. Refute it at one input. -/
def distanceHitsWrong : ChangeSpec := { name := "distanceHits", fn := fun _ => fun
  | [d1, d2] => { results := [.lit (.bool false)], args := [d1, d2] }
  | _ => none }
def DistanceHitsWrongFalsely : Prop := distanceHitsRow.holds Try.pinned (OpenSpec.ofChange distanceHitsWrong)

/-- 'slopchestlaw.SegmentSpec': WHATEVER THE INPUT: true; the input reads as it did. -/
def segmentSpecSpec : ChangeSpec := { name := "segmentSpec", fn := fun _ => fun
  | [d1, d2, d3] => { results := [.lit (.bool true)], args := [d1, d2, d3] }
  | _ => none }
def segmentSpecRow : OpenClaim := { program := "ytkndekkacimekaa", sum := "fa941bb7df7ed1638d025f0d1bca8fa7b647e762fd095370775b880debaec946", func := "slopchest/slopchestlaw.SegmentSpec", spec := "segmentSpec", inPlace := ["slices.overlaps[int]"], unfollowed := true, recurses := true, apart := false }
def SegmentSpecSaid : Prop := segmentSpecRow.holds Try.pinned (OpenSpec.ofChange segmentSpecSpec)

/-- ITS FALSE NEIGHBOUR: 'it returns false'. Refute it at one input. -/
def segmentSpecWrong : ChangeSpec := { name := "segmentSpec", fn := fun _ => fun
  | [d1, d2, d3] => { results := [.lit (.bool false)], args := [d1, d2, d3] }
  | _ => none }
def SegmentSpecWrongFalsely : Prop := segmentSpecRow.holds Try.pinned (OpenSpec.ofChange segmentSpecWrong)

/-- 'slopchestlaw.SegmentScan': WHATEVER THE INPUT: true; the input reads as it did. -/
def segmentScanSpec : ChangeSpec := { name := "segmentScan", fn := fun _ => fun
  | [d1, d2] => { results := [.lit (.bool true)], args := [d1, d2] }
  | _ => none }
def segmentScanRow : OpenClaim := { program := "ytkndekkacimekaa", sum := "fa941bb7df7ed1638d025f0d1bca8fa7b647e762fd095370775b880debaec946", func := "slopchest/slopchestlaw.SegmentScan", spec := "segmentScan", inPlace := ["slices.overlaps[int]"], unfollowed := true, recurses := true, apart := false }
def SegmentScanSaid : Prop := segmentScanRow.holds Try.pinned (OpenSpec.ofChange segmentScanSpec)

/-- ITS FALSE NEIGHBOUR: 'it returns false'. Refute it at one input. -/
def segmentScanWrong : ChangeSpec := { name := "segmentScan", fn := fun _ => fun
  | [d1, d2] => { results := [.lit (.bool false)], args := [d1, d2] }
  | _ => none }
def SegmentScanWrongFalsely : Prop := segmentScanRow.holds Try.pinned (OpenSpec.ofChange segmentScanWrong)

/-- 'slopchestlaw.SegmentKeeps': WHATEVER THE INPUT: true; the input reads as it did. -/
def segmentKeepsSpec : ChangeSpec := { name := "segmentKeeps", fn := fun _ => fun
  | [d1, d2] => { results := [.lit (.bool true)], args := [d1, d2] }
  | _ => none }
def segmentKeepsRow : OpenClaim := { program := "ytkndekkacimekaa", sum := "fa941bb7df7ed1638d025f0d1bca8fa7b647e762fd095370775b880debaec946", func := "slopchest/slopchestlaw.SegmentKeeps", spec := "segmentKeeps", inPlace := ["slices.overlaps[int]"], unfollowed := true, recurses := true, apart := false }
def SegmentKeepsSaid : Prop := segmentKeepsRow.holds Try.pinned (OpenSpec.ofChange segmentKeepsSpec)

/-- ITS FALSE NEIGHBOUR: 'it returns false'. Refute it at one input. -/
def segmentKeepsWrong : ChangeSpec := { name := "segmentKeeps", fn := fun _ => fun
  | [d1, d2] => { results := [.lit (.bool false)], args := [d1, d2] }
  | _ => none }
def SegmentKeepsWrongFalsely : Prop := segmentKeepsRow.holds Try.pinned (OpenSpec.ofChange segmentKeepsWrong)

/-- 'slopchestlaw.SegmentParts': WHATEVER THE INPUT: true; the input reads as it did. -/
def segmentPartsSpec : ChangeSpec := { name := "segmentParts", fn := fun _ => fun
  | [d1, d2, d3, d4] => { results := [.lit (.bool true)], args := [d1, d2, d3, d4] }
  | _ => none }
def segmentPartsRow : OpenClaim := { program := "ytkndekkacimekaa", sum := "fa941bb7df7ed1638d025f0d1bca8fa7b647e762fd095370775b880debaec946", func := "slopchest/slopchestlaw.SegmentParts", spec := "segmentParts", inPlace := ["slices.overlaps[int]"], unfollowed := true, recurses := true, apart := false }
def SegmentPartsSaid : Prop := segmentPartsRow.holds Try.pinned (OpenSpec.ofChange segmentPartsSpec)

/-- ITS FALSE NEIGHBOUR: 'it returns false'. Refute it at one input. -/
def segmentPartsWrong : ChangeSpec := { name := "segmentParts", fn := fun _ => fun
  | [d1, d2, d3, d4] => { results := [.lit (.bool false)], args := [d1, d2, d3, d4] }
  | _ => none }
def SegmentPartsWrongFalsely : Prop := segmentPartsRow.holds Try.pinned (OpenSpec.ofChange segmentPartsWrong)

/-- 'slopchesttop.TopDepths': WHATEVER THE INPUT: true; the input reads as it did. -/
def topDepthsSpec : ChangeSpec := { name := "topDepths", fn := fun _ => fun
  | [d1, d2, d3] => { results := [.lit (.bool true)], args := [d1, d2, d3] }
  | _ => none }
def topDepthsRow : OpenClaim := { program := "ytkndekkacimekaa", sum := "fa941bb7df7ed1638d025f0d1bca8fa7b647e762fd095370775b880debaec946", func := "slopchest/slopchesttop.TopDepths", spec := "topDepths", inPlace := ["slices.overlaps[int]"], unfollowed := true, recurses := true, apart := false }
def TopDepthsSaid : Prop := topDepthsRow.holds Try.pinned (OpenSpec.ofChange topDepthsSpec)

/-- ITS FALSE NEIGHBOUR: 'it returns false'. Refute it at one input. -/
def topDepthsWrong : ChangeSpec := { name := "topDepths", fn := fun _ => fun
  | [d1, d2, d3] => { results := [.lit (.bool false)], args := [d1, d2, d3] }
  | _ => none }
def TopDepthsWrongFalsely : Prop := topDepthsRow.holds Try.pinned (OpenSpec.ofChange topDepthsWrong)

/-- 'slopchesttop.TopSets': WHATEVER THE INPUT: true; the input reads as it did. -/
def topSetsSpec : ChangeSpec := { name := "topSets", fn := fun _ => fun
  | [d1, d2] => { results := [.lit (.bool true)], args := [d1, d2] }
  | _ => none }
def topSetsRow : OpenClaim := { program := "ytkndekkacimekaa", sum := "fa941bb7df7ed1638d025f0d1bca8fa7b647e762fd095370775b880debaec946", func := "slopchest/slopchesttop.TopSets", spec := "topSets", inPlace := ["slices.overlaps[int]"], unfollowed := true, recurses := true, apart := false }
def TopSetsSaid : Prop := topSetsRow.holds Try.pinned (OpenSpec.ofChange topSetsSpec)

/-- ITS FALSE NEIGHBOUR: 'it returns false'. Refute it at one input. -/
def topSetsWrong : ChangeSpec := { name := "topSets", fn := fun _ => fun
  | [d1, d2] => { results := [.lit (.bool false)], args := [d1, d2] }
  | _ => none }
def TopSetsWrongFalsely : Prop := topSetsRow.holds Try.pinned (OpenSpec.ofChange topSetsWrong)

/- THE SECOND FORM. 'bulk': how many values and letters a reading holds, each counted each time it is reached (what is shared counts as often as it is met; a slice's spare places count too). A statement '..UptoSaid' is the law's where the arguments, and the package variables that the reading takes, are together of bulk at most 1048576: NARROWER than '..Said'. Prove '..Said' where nothing that the law and all that it calls make is longer than what came in: it says more and counts as full. Else prove '..UptoSaid'. A law counts once. -/
mutual
def uptoBulk {H : Type} : DataW H → Nat
  | .lit (.string bytes) => bytes.length + 1
  | .lit _ => 1
  | .nil => 1
  | .ptr d => uptoBulk d + 1
  | .slice elems spare => uptoBulkAll elems + uptoBulkAll spare + 1
  | .agg parts => uptoBulkAll parts + 1
  | .iface _ d => uptoBulk d + 1
  | .map entries => uptoBulkEntries entries + 1
  | .held _ => 1
def uptoBulkAll {H : Type} : List (DataW H) → Nat
  | [] => 0
  | d :: r => uptoBulk d + uptoBulkAll r
def uptoBulkEntries {H : Type} : List (Lit × DataW H) → Nat
  | [] => 0
  | x :: r => uptoBulkEntry x + uptoBulkEntries r
def uptoBulkEntry {H : Type} : Lit × DataW H → Nat
  | (.string bytes, d) => bytes.length + uptoBulk d + 1
  | (_, d) => uptoBulk d + 1
 end
def uptoSmall : (H : Type) → List (DataW H) → Bool := fun _ ds => decide (uptoBulkAll ds ≤ 1048576)
def OpenSpec.upto (s : _root_.Go.ChangeSpec) : _root_.Go.OpenSpec := { _root_.Go.OpenSpec.ofChange s with cond := some uptoSmall }

/-- 'slopchestlaw.ExpireSpec', WHERE WHAT IT READS IS OF BULK AT MOST 1048576: true; the input reads as it did. -/
def expireSpecUptoRow : OpenClaim := { program := "ytkndekkacimekaa", sum := "fa941bb7df7ed1638d025f0d1bca8fa7b647e762fd095370775b880debaec946", func := "slopchest/slopchestlaw.ExpireSpec", spec := "expireSpec", inPlace := ["slices.overlaps[slopchest/api.Entry]"], unfollowed := true, recurses := true, apart := false, narrowed := true }
def ExpireSpecUptoSaid : Prop := expireSpecUptoRow.holds Try.pinned (OpenSpec.upto expireSpecSpec)

/-- 'slopchestlaw.ExpireLifetime', WHERE WHAT IT READS IS OF BULK AT MOST 1048576: true; the input reads as it did. -/
def expireLifetimeUptoRow : OpenClaim := { program := "ytkndekkacimekaa", sum := "fa941bb7df7ed1638d025f0d1bca8fa7b647e762fd095370775b880debaec946", func := "slopchest/slopchestlaw.ExpireLifetime", spec := "expireLifetime", inPlace := ["slices.overlaps[slopchest/api.Entry]"], unfollowed := true, recurses := true, apart := false, narrowed := true }
def ExpireLifetimeUptoSaid : Prop := expireLifetimeUptoRow.holds Try.pinned (OpenSpec.upto expireLifetimeSpec)

/-- 'slopchestlaw.ExpireSweeps', WHERE WHAT IT READS IS OF BULK AT MOST 1048576: true; the input reads as it did. -/
def expireSweepsUptoRow : OpenClaim := { program := "ytkndekkacimekaa", sum := "fa941bb7df7ed1638d025f0d1bca8fa7b647e762fd095370775b880debaec946", func := "slopchest/slopchestlaw.ExpireSweeps", spec := "expireSweeps", inPlace := ["slices.overlaps[slopchest/api.Entry]"], unfollowed := true, recurses := true, apart := false, narrowed := true }
def ExpireSweepsUptoSaid : Prop := expireSweepsUptoRow.holds Try.pinned (OpenSpec.upto expireSweepsSpec)

/-- 'slopchestlaw.ExpireOthers', WHERE WHAT IT READS IS OF BULK AT MOST 1048576: true; the input reads as it did. -/
def expireOthersUptoRow : OpenClaim := { program := "ytkndekkacimekaa", sum := "fa941bb7df7ed1638d025f0d1bca8fa7b647e762fd095370775b880debaec946", func := "slopchest/slopchestlaw.ExpireOthers", spec := "expireOthers", inPlace := ["slices.overlaps[slopchest/api.Entry]"], unfollowed := true, recurses := true, apart := false, narrowed := true }
def ExpireOthersUptoSaid : Prop := expireOthersUptoRow.holds Try.pinned (OpenSpec.upto expireOthersSpec)

/-- 'slopchestlaw.DistanceRepeat', WHERE WHAT IT READS IS OF BULK AT MOST 1048576: true; the input reads as it did. -/
def distanceRepeatUptoRow : OpenClaim := { program := "ytkndekkacimekaa", sum := "fa941bb7df7ed1638d025f0d1bca8fa7b647e762fd095370775b880debaec946", func := "slopchest/slopchestlaw.DistanceRepeat", spec := "distanceRepeat", inPlace := ["slices.overlaps[int]"], unfollowed := true, recurses := true, apart := false, narrowed := true }
def DistanceRepeatUptoSaid : Prop := distanceRepeatUptoRow.holds Try.pinned (OpenSpec.upto distanceRepeatSpec)

/-- 'slopchestlaw.DistanceHits', WHERE WHAT IT READS IS OF BULK AT MOST 1048576: true; the input reads as it did. -/
def distanceHitsUptoRow : OpenClaim := { program := "ytkndekkacimekaa", sum := "fa941bb7df7ed1638d025f0d1bca8fa7b647e762fd095370775b880debaec946", func := "slopchest/slopchestlaw.DistanceHits", spec := "distanceHits", inPlace := ["slices.overlaps[int]"], unfollowed := true, recurses := true, apart := false, narrowed := true }
def DistanceHitsUptoSaid : Prop := distanceHitsUptoRow.holds Try.pinned (OpenSpec.upto distanceHitsSpec)

/-- 'slopchestlaw.SegmentSpec', WHERE WHAT IT READS IS OF BULK AT MOST 1048576: true; the input reads as it did. -/
def segmentSpecUptoRow : OpenClaim := { program := "ytkndekkacimekaa", sum := "fa941bb7df7ed1638d025f0d1bca8fa7b647e762fd095370775b880debaec946", func := "slopchest/slopchestlaw.SegmentSpec", spec := "segmentSpec", inPlace := ["slices.overlaps[int]"], unfollowed := true, recurses := true, apart := false, narrowed := true }
def SegmentSpecUptoSaid : Prop := segmentSpecUptoRow.holds Try.pinned (OpenSpec.upto segmentSpecSpec)

/-- 'slopchestlaw.SegmentScan', WHERE WHAT IT READS IS OF BULK AT MOST 1048576: true; the input reads as it did. -/
def segmentScanUptoRow : OpenClaim := { program := "ytkndekkacimekaa", sum := "fa941bb7df7ed1638d025f0d1bca8fa7b647e762fd095370775b880debaec946", func := "slopchest/slopchestlaw.SegmentScan", spec := "segmentScan", inPlace := ["slices.overlaps[int]"], unfollowed := true, recurses := true, apart := false, narrowed := true }
def SegmentScanUptoSaid : Prop := segmentScanUptoRow.holds Try.pinned (OpenSpec.upto segmentScanSpec)

/-- 'slopchestlaw.SegmentKeeps', WHERE WHAT IT READS IS OF BULK AT MOST 1048576: true; the input reads as it did. -/
def segmentKeepsUptoRow : OpenClaim := { program := "ytkndekkacimekaa", sum := "fa941bb7df7ed1638d025f0d1bca8fa7b647e762fd095370775b880debaec946", func := "slopchest/slopchestlaw.SegmentKeeps", spec := "segmentKeeps", inPlace := ["slices.overlaps[int]"], unfollowed := true, recurses := true, apart := false, narrowed := true }
def SegmentKeepsUptoSaid : Prop := segmentKeepsUptoRow.holds Try.pinned (OpenSpec.upto segmentKeepsSpec)

/-- 'slopchestlaw.SegmentParts', WHERE WHAT IT READS IS OF BULK AT MOST 1048576: true; the input reads as it did. -/
def segmentPartsUptoRow : OpenClaim := { program := "ytkndekkacimekaa", sum := "fa941bb7df7ed1638d025f0d1bca8fa7b647e762fd095370775b880debaec946", func := "slopchest/slopchestlaw.SegmentParts", spec := "segmentParts", inPlace := ["slices.overlaps[int]"], unfollowed := true, recurses := true, apart := false, narrowed := true }
def SegmentPartsUptoSaid : Prop := segmentPartsUptoRow.holds Try.pinned (OpenSpec.upto segmentPartsSpec)

/-- 'slopchesttop.TopDepths', WHERE WHAT IT READS IS OF BULK AT MOST 1048576: true; the input reads as it did. -/
def topDepthsUptoRow : OpenClaim := { program := "ytkndekkacimekaa", sum := "fa941bb7df7ed1638d025f0d1bca8fa7b647e762fd095370775b880debaec946", func := "slopchest/slopchesttop.TopDepths", spec := "topDepths", inPlace := ["slices.overlaps[int]"], unfollowed := true, recurses := true, apart := false, narrowed := true }
def TopDepthsUptoSaid : Prop := topDepthsUptoRow.holds Try.pinned (OpenSpec.upto topDepthsSpec)

/-- 'slopchesttop.TopSets', WHERE WHAT IT READS IS OF BULK AT MOST 1048576: true; the input reads as it did. -/
def topSetsUptoRow : OpenClaim := { program := "ytkndekkacimekaa", sum := "fa941bb7df7ed1638d025f0d1bca8fa7b647e762fd095370775b880debaec946", func := "slopchest/slopchesttop.TopSets", spec := "topSets", inPlace := ["slices.overlaps[int]"], unfollowed := true, recurses := true, apart := false, narrowed := true }
def TopSetsUptoSaid : Prop := topSetsUptoRow.holds Try.pinned (OpenSpec.upto topSetsSpec)

end Rows
end Go.Proofs.Ytkndekkacimekaa
