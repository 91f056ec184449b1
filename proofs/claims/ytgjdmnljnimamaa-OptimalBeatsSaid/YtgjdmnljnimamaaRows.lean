/-
  No cell of these rows narrows 'for every input' (looked for: loops, veiled, ifaces, maps, wideKeys, modest, calm, conditions, laid).
  DERIVED. THE GIVEN ROWS OF THIS SEAT. 12 by the template 'for every input the law returns true; each argument reads behind the call as it read before'; 0 by the template 'total and deterministic' (their statements: YtgjdmnljnimamaaTotals.lean).
  GIVEN WITH THE SEED: the statements are not yours to turn. If you find one false, say at which input.
  Laid BY PROGRAM, IN A SANDBOX (cutbox-rows.mjs): the forced cells as the released guide's own fill.sh prints them over the translation bd90709b4c6d53de… (all of the seat's roots in one cut). By AI agents, Wed Nov 11 2026. No macro, syntax, notation, axiom, sorry.
-/
import Derived.Test.YtgjdmnljnimamaaChecked
import GoSem.Claim
import GoSem.ClaimJoined
import GoSem.ClaimMapViews
import Derived.JoinedTies
import Derived.KernelRfl
namespace Go.Proofs.Ytgjdmnljnimamaa
/- THE CELL 'sum', in the pinned program and in every row, IS THE sha256 OF THE DUMP (.gsa) THAT YtgjdmnljnimamaaProg.lean LOADS. Nothing in Lean hashes anything: it is a label: what it is worth is what the hold of that sum in a sandbox is worth. -/
noncomputable def Try.pinned : Pinned := { name := "ytgjdmnljnimamaa", sum := "bd90709b4c6d53de54746f3a5235ba3509e561cf2f65ca1ae16a218ffa6db901", checked := Try.checked }
namespace Rows
def none {H : Type} : Left H := { results := [], args := [] }

/-- 'slopchestlaw.RingSpec': WHATEVER THE INPUT: true; the input reads as it did. -/
def ringSpecSpec : ChangeSpec := { name := "ringSpec", fn := fun _ => fun
  | [d1, d2, d3, d4, d5] => { results := [.lit (.bool true)], args := [d1, d2, d3, d4, d5] }
  | _ => none }
def ringSpecRow : OpenClaim := { program := "ytgjdmnljnimamaa", sum := "bd90709b4c6d53de54746f3a5235ba3509e561cf2f65ca1ae16a218ffa6db901", func := "slopchest/slopchestlaw.RingSpec", spec := "ringSpec", inPlace := ["slices.overlaps[slopchest/api.Point]"], unfollowed := true, recurses := true, apart := false }
def RingSpecSaid : Prop := ringSpecRow.holds Try.pinned (OpenSpec.ofChange ringSpecSpec)

/-- ITS FALSE NEIGHBOUR: 'it returns false'. Refute it at one input. -/
def ringSpecWrong : ChangeSpec := { name := "ringSpec", fn := fun _ => fun
  | [d1, d2, d3, d4, d5] => { results := [.lit (.bool false)], args := [d1, d2, d3, d4, d5] }
  | _ => none }
def RingSpecWrongFalsely : Prop := ringSpecRow.holds Try.pinned (OpenSpec.ofChange ringSpecWrong)

/-- 'slopchestlaw.RingMoves': WHATEVER THE INPUT: true; the input reads as it did. -/
def ringMovesSpec : ChangeSpec := { name := "ringMoves", fn := fun _ => fun
  | [d1, d2, d3, d4] => { results := [.lit (.bool true)], args := [d1, d2, d3, d4] }
  | _ => none }
def ringMovesRow : OpenClaim := { program := "ytgjdmnljnimamaa", sum := "bd90709b4c6d53de54746f3a5235ba3509e561cf2f65ca1ae16a218ffa6db901", func := "slopchest/slopchestlaw.RingMoves", spec := "ringMoves", inPlace := ["slices.overlaps[slopchest/api.Point]"], unfollowed := true, recurses := true, apart := false }
def RingMovesSaid : Prop := ringMovesRow.holds Try.pinned (OpenSpec.ofChange ringMovesSpec)

/-- ITS FALSE NEIGHBOUR: 'it returns false'. Refute it at one input. -/
def ringMovesWrong : ChangeSpec := { name := "ringMoves", fn := fun _ => fun
  | [d1, d2, d3, d4] => { results := [.lit (.bool false)], args := [d1, d2, d3, d4] }
  | _ => none }
def RingMovesWrongFalsely : Prop := ringMovesRow.holds Try.pinned (OpenSpec.ofChange ringMovesWrong)

/-- 'slopchestlaw.RingShares': WHATEVER THE INPUT: true; the input reads as it did. -/
def ringSharesSpec : ChangeSpec := { name := "ringShares", fn := fun _ => fun
  | [d1, d2, d3] => { results := [.lit (.bool true)], args := [d1, d2, d3] }
  | _ => none }
def ringSharesRow : OpenClaim := { program := "ytgjdmnljnimamaa", sum := "bd90709b4c6d53de54746f3a5235ba3509e561cf2f65ca1ae16a218ffa6db901", func := "slopchest/slopchestlaw.RingShares", spec := "ringShares", inPlace := ["slices.overlaps[slopchest/api.Point]"], unfollowed := true, recurses := true, apart := false }
def RingSharesSaid : Prop := ringSharesRow.holds Try.pinned (OpenSpec.ofChange ringSharesSpec)

/-- ITS FALSE NEIGHBOUR: 'it returns false'. Refute it at one input. -/
def ringSharesWrong : ChangeSpec := { name := "ringShares", fn := fun _ => fun
  | [d1, d2, d3] => { results := [.lit (.bool false)], args := [d1, d2, d3] }
  | _ => none }
def RingSharesWrongFalsely : Prop := ringSharesRow.holds Try.pinned (OpenSpec.ofChange ringSharesWrong)

/-- 'slopchestlaw.RingRestores': WHATEVER THE INPUT: true; the input reads as it did. -/
def ringRestoresSpec : ChangeSpec := { name := "ringRestores", fn := fun _ => fun
  | [d1, d2, d3] => { results := [.lit (.bool true)], args := [d1, d2, d3] }
  | _ => none }
def ringRestoresRow : OpenClaim := { program := "ytgjdmnljnimamaa", sum := "bd90709b4c6d53de54746f3a5235ba3509e561cf2f65ca1ae16a218ffa6db901", func := "slopchest/slopchestlaw.RingRestores", spec := "ringRestores", inPlace := ["slices.overlaps[slopchest/api.Point]"], unfollowed := true, recurses := true, apart := false }
def RingRestoresSaid : Prop := ringRestoresRow.holds Try.pinned (OpenSpec.ofChange ringRestoresSpec)

/-- ITS FALSE NEIGHBOUR: 'it returns false'. Refute it at one input. -/
def ringRestoresWrong : ChangeSpec := { name := "ringRestores", fn := fun _ => fun
  | [d1, d2, d3] => { results := [.lit (.bool false)], args := [d1, d2, d3] }
  | _ => none }
def RingRestoresWrongFalsely : Prop := ringRestoresRow.holds Try.pinned (OpenSpec.ofChange ringRestoresWrong)

/-- 'slopchestlaw.TierSpec': WHATEVER THE INPUT: true; the input reads as it did. -/
def tierSpecSpec : ChangeSpec := { name := "tierSpec", fn := fun _ => fun
  | [d1, d2, d3] => { results := [.lit (.bool true)], args := [d1, d2, d3] }
  | _ => none }
def tierSpecRow : OpenClaim := { program := "ytgjdmnljnimamaa", sum := "bd90709b4c6d53de54746f3a5235ba3509e561cf2f65ca1ae16a218ffa6db901", func := "slopchest/slopchestlaw.TierSpec", spec := "tierSpec", inPlace := ["slices.overlaps[int]"], unfollowed := true, recurses := true, apart := false }
def TierSpecSaid : Prop := tierSpecRow.holds Try.pinned (OpenSpec.ofChange tierSpecSpec)

/-- ITS FALSE NEIGHBOUR: 'it returns false'. Refute it at one input. -/
def tierSpecWrong : ChangeSpec := { name := "tierSpec", fn := fun _ => fun
  | [d1, d2, d3] => { results := [.lit (.bool false)], args := [d1, d2, d3] }
  | _ => none }
def TierSpecWrongFalsely : Prop := tierSpecRow.holds Try.pinned (OpenSpec.ofChange tierSpecWrong)

/-- 'slopchestlaw.TierMoves': WHATEVER THE INPUT: true; the input reads as it did. -/
def tierMovesSpec : ChangeSpec := { name := "tierMoves", fn := fun _ => fun
  | [d1, d2] => { results := [.lit (.bool true)], args := [d1, d2] }
  | _ => none }
def tierMovesRow : OpenClaim := { program := "ytgjdmnljnimamaa", sum := "bd90709b4c6d53de54746f3a5235ba3509e561cf2f65ca1ae16a218ffa6db901", func := "slopchest/slopchestlaw.TierMoves", spec := "tierMoves", inPlace := ["slices.overlaps[int]"], unfollowed := true, recurses := true, apart := false }
def TierMovesSaid : Prop := tierMovesRow.holds Try.pinned (OpenSpec.ofChange tierMovesSpec)

/-- ITS FALSE NEIGHBOUR: 'it returns false'. Refute it at one input. -/
def tierMovesWrong : ChangeSpec := { name := "tierMoves", fn := fun _ => fun
  | [d1, d2] => { results := [.lit (.bool false)], args := [d1, d2] }
  | _ => none }
def TierMovesWrongFalsely : Prop := tierMovesRow.holds Try.pinned (OpenSpec.ofChange tierMovesWrong)

/-- 'slopchestlaw.TierMerged': WHATEVER THE INPUT: true; the input reads as it did. -/
def tierMergedSpec : ChangeSpec := { name := "tierMerged", fn := fun _ => fun
  | [d1, d2] => { results := [.lit (.bool true)], args := [d1, d2] }
  | _ => none }
def tierMergedRow : OpenClaim := { program := "ytgjdmnljnimamaa", sum := "bd90709b4c6d53de54746f3a5235ba3509e561cf2f65ca1ae16a218ffa6db901", func := "slopchest/slopchestlaw.TierMerged", spec := "tierMerged", inPlace := ["slices.overlaps[int]"], unfollowed := true, recurses := true, apart := false }
def TierMergedSaid : Prop := tierMergedRow.holds Try.pinned (OpenSpec.ofChange tierMergedSpec)

/-- ITS FALSE NEIGHBOUR: 'it returns false'. Refute it at one input. -/
def tierMergedWrong : ChangeSpec := { name := "tierMerged", fn := fun _ => fun
  | [d1, d2] => { results := [.lit (.bool false)], args := [d1, d2] }
  | _ => none }
def TierMergedWrongFalsely : Prop := tierMergedRow.holds Try.pinned (OpenSpec.ofChange tierMergedWrong)

/-- 'slopchestlaw.TierNear': WHATEVER THE INPUT: true; the input reads as it did. -/
def tierNearSpec : ChangeSpec := { name := "tierNear", fn := fun _ => fun
  | [d1, d2] => { results := [.lit (.bool true)], args := [d1, d2] }
  | _ => none }
def tierNearRow : OpenClaim := { program := "ytgjdmnljnimamaa", sum := "bd90709b4c6d53de54746f3a5235ba3509e561cf2f65ca1ae16a218ffa6db901", func := "slopchest/slopchestlaw.TierNear", spec := "tierNear", inPlace := ["slices.overlaps[int]"], unfollowed := true, recurses := true, apart := false }
def TierNearSaid : Prop := tierNearRow.holds Try.pinned (OpenSpec.ofChange tierNearSpec)

/-- ITS FALSE NEIGHBOUR: 'it returns false'. Refute it at one input. -/
def tierNearWrong : ChangeSpec := { name := "tierNear", fn := fun _ => fun
  | [d1, d2] => { results := [.lit (.bool false)], args := [d1, d2] }
  | _ => none }
def TierNearWrongFalsely : Prop := tierNearRow.holds Try.pinned (OpenSpec.ofChange tierNearWrong)

/-- 'slopchestlaw.OptimalSpec': WHATEVER THE INPUT: true; the input reads as it did. -/
def optimalSpecSpec : ChangeSpec := { name := "optimalSpec", fn := fun _ => fun
  | [d1, d2, d3, d4, d5] => { results := [.lit (.bool true)], args := [d1, d2, d3, d4, d5] }
  | _ => none }
def optimalSpecRow : OpenClaim := { program := "ytgjdmnljnimamaa", sum := "bd90709b4c6d53de54746f3a5235ba3509e561cf2f65ca1ae16a218ffa6db901", func := "slopchest/slopchestlaw.OptimalSpec", spec := "optimalSpec", unfollowed := true, recurses := true, apart := false }
def OptimalSpecSaid : Prop := optimalSpecRow.holds Try.pinned (OpenSpec.ofChange optimalSpecSpec)

/-- ITS FALSE NEIGHBOUR: 'it returns false'. Refute it at one input. -/
def optimalSpecWrong : ChangeSpec := { name := "optimalSpec", fn := fun _ => fun
  | [d1, d2, d3, d4, d5] => { results := [.lit (.bool false)], args := [d1, d2, d3, d4, d5] }
  | _ => none }
def OptimalSpecWrongFalsely : Prop := optimalSpecRow.holds Try.pinned (OpenSpec.ofChange optimalSpecWrong)

/-- 'slopchestlaw.OptimalFewest': WHATEVER THE INPUT: true; the input reads as it did. -/
def optimalFewestSpec : ChangeSpec := { name := "optimalFewest", fn := fun _ => fun
  | [d1, d2] => { results := [.lit (.bool true)], args := [d1, d2] }
  | _ => none }
def optimalFewestRow : OpenClaim := { program := "ytgjdmnljnimamaa", sum := "bd90709b4c6d53de54746f3a5235ba3509e561cf2f65ca1ae16a218ffa6db901", func := "slopchest/slopchestlaw.OptimalFewest", spec := "optimalFewest", unfollowed := true, recurses := true, apart := false }
def OptimalFewestSaid : Prop := optimalFewestRow.holds Try.pinned (OpenSpec.ofChange optimalFewestSpec)

/-- ITS FALSE NEIGHBOUR: 'it returns false'. Refute it at one input. -/
def optimalFewestWrong : ChangeSpec := { name := "optimalFewest", fn := fun _ => fun
  | [d1, d2] => { results := [.lit (.bool false)], args := [d1, d2] }
  | _ => none }
def OptimalFewestWrongFalsely : Prop := optimalFewestRow.holds Try.pinned (OpenSpec.ofChange optimalFewestWrong)

/-- 'slopchestlaw.OptimalRoom': WHATEVER THE INPUT: true; the input reads as it did. -/
def optimalRoomSpec : ChangeSpec := { name := "optimalRoom", fn := fun _ => fun
  | [d1, d2, d3] => { results := [.lit (.bool true)], args := [d1, d2, d3] }
  | _ => none }
def optimalRoomRow : OpenClaim := { program := "ytgjdmnljnimamaa", sum := "bd90709b4c6d53de54746f3a5235ba3509e561cf2f65ca1ae16a218ffa6db901", func := "slopchest/slopchestlaw.OptimalRoom", spec := "optimalRoom", inPlace := ["slices.overlaps[int]"], unfollowed := true, recurses := true, apart := false }
def OptimalRoomSaid : Prop := optimalRoomRow.holds Try.pinned (OpenSpec.ofChange optimalRoomSpec)

/-- ITS FALSE NEIGHBOUR: 'it returns false'. Refute it at one input. -/
def optimalRoomWrong : ChangeSpec := { name := "optimalRoom", fn := fun _ => fun
  | [d1, d2, d3] => { results := [.lit (.bool false)], args := [d1, d2, d3] }
  | _ => none }
def OptimalRoomWrongFalsely : Prop := optimalRoomRow.holds Try.pinned (OpenSpec.ofChange optimalRoomWrong)

/-- 'slopchestlaw.OptimalBeats': WHATEVER THE INPUT: true; the input reads as it did. -/
def optimalBeatsSpec : ChangeSpec := { name := "optimalBeats", fn := fun _ => fun
  | [d1, d2] => { results := [.lit (.bool true)], args := [d1, d2] }
  | _ => none }
def optimalBeatsRow : OpenClaim := { program := "ytgjdmnljnimamaa", sum := "bd90709b4c6d53de54746f3a5235ba3509e561cf2f65ca1ae16a218ffa6db901", func := "slopchest/slopchestlaw.OptimalBeats", spec := "optimalBeats", inPlace := ["slices.overlaps[int]", "slices.overlaps[slopchest/api.Use]"], unfollowed := true, recurses := true, apart := false }
def OptimalBeatsSaid : Prop := optimalBeatsRow.holds Try.pinned (OpenSpec.ofChange optimalBeatsSpec)

/-- ITS FALSE NEIGHBOUR: 'it returns false'. Refute it at one input. -/
def optimalBeatsWrong : ChangeSpec := { name := "optimalBeats", fn := fun _ => fun
  | [d1, d2] => { results := [.lit (.bool false)], args := [d1, d2] }
  | _ => none }
def OptimalBeatsWrongFalsely : Prop := optimalBeatsRow.holds Try.pinned (OpenSpec.ofChange optimalBeatsWrong)

/- THE SECOND FORM. 'bulk': how many values and letters a reading holds, each counted each time it is reached (what is shared counts as often as it is met; a slice's spare places count too). A statement '..UptoSaid' is the law's where the arguments, and the package variables that the reading takes, are together of bulk at most 1048576: NARROWER than '..Said'. Prove '..Said' where nothing that the law and all that it calls make is longer than what came in: it says more and counts as full. Else prove '..UptoSaid'. A law counts once. -/
mutual
def uptoBulk {H : Type} : DataW H → Nat
  | .lit (.string bytes) => bytes.length + 1
  | .lit _ => 1
  | .nil => 1
  | .ptr d => uptoBulk d + 1
  | .slice elems spare => uptoBulkAll elems + uptoBulkAll spare + 1
  | .agg parts => uptoBulkAll parts + 1
  | .iface _ d => uptoBulk d + 1
  | .map entries => uptoBulkEntries entries + 1
  | .held _ => 1
def uptoBulkAll {H : Type} : List (DataW H) → Nat
  | [] => 0
  | d :: r => uptoBulk d + uptoBulkAll r
def uptoBulkEntries {H : Type} : List (Lit × DataW H) → Nat
  | [] => 0
  | x :: r => uptoBulkEntry x + uptoBulkEntries r
def uptoBulkEntry {H : Type} : Lit × DataW H → Nat
  | (.string bytes, d) => bytes.length + uptoBulk d + 1
  | (_, d) => uptoBulk d + 1
 end
def uptoSmall : (H : Type) → List (DataW H) → Bool := fun _ ds => decide (uptoBulkAll ds ≤ 1048576)
def OpenSpec.upto (s : _root_.Go.ChangeSpec) : _root_.Go.OpenSpec := { _root_.Go.OpenSpec.ofChange s with cond := some uptoSmall }

/-- 'slopchestlaw.RingSpec', WHERE WHAT IT READS IS OF BULK AT MOST 1048576: true; the input reads as it did. -/
def ringSpecUptoRow : OpenClaim := { program := "ytgjdmnljnimamaa", sum := "bd90709b4c6d53de54746f3a5235ba3509e561cf2f65ca1ae16a218ffa6db901", func := "slopchest/slopchestlaw.RingSpec", spec := "ringSpec", inPlace := ["slices.overlaps[slopchest/api.Point]"], unfollowed := true, recurses := true, apart := false, narrowed := true }
def RingSpecUptoSaid : Prop := ringSpecUptoRow.holds Try.pinned (OpenSpec.upto ringSpecSpec)

/-- 'slopchestlaw.RingMoves', WHERE WHAT IT READS IS OF BULK AT MOST 1048576: true; the input reads as it did. -/
def ringMovesUptoRow : OpenClaim := { program := "ytgjdmnljnimamaa", sum := "bd90709b4c6d53de54746f3a5235ba3509e561cf2f65ca1ae16a218ffa6db901", func := "slopchest/slopchestlaw.RingMoves", spec := "ringMoves", inPlace := ["slices.overlaps[slopchest/api.Point]"], unfollowed := true, recurses := true, apart := false, narrowed := true }
def RingMovesUptoSaid : Prop := ringMovesUptoRow.holds Try.pinned (OpenSpec.upto ringMovesSpec)

/-- 'slopchestlaw.RingShares', WHERE WHAT IT READS IS OF BULK AT MOST 1048576: true; the input reads as it did. -/
def ringSharesUptoRow : OpenClaim := { program := "ytgjdmnljnimamaa", sum := "bd90709b4c6d53de54746f3a5235ba3509e561cf2f65ca1ae16a218ffa6db901", func := "slopchest/slopchestlaw.RingShares", spec := "ringShares", inPlace := ["slices.overlaps[slopchest/api.Point]"], unfollowed := true, recurses := true, apart := false, narrowed := true }
def RingSharesUptoSaid : Prop := ringSharesUptoRow.holds Try.pinned (OpenSpec.upto ringSharesSpec)

/-- 'slopchestlaw.RingRestores', WHERE WHAT IT READS IS OF BULK AT MOST 1048576: true; the input reads as it did. -/
def ringRestoresUptoRow : OpenClaim := { program := "ytgjdmnljnimamaa", sum := "bd90709b4c6d53de54746f3a5235ba3509e561cf2f65ca1ae16a218ffa6db901", func := "slopchest/slopchestlaw.RingRestores", spec := "ringRestores", inPlace := ["slices.overlaps[slopchest/api.Point]"], unfollowed := true, recurses := true, apart := false, narrowed := true }
def RingRestoresUptoSaid : Prop := ringRestoresUptoRow.holds Try.pinned (OpenSpec.upto ringRestoresSpec)

/-- 'slopchestlaw.TierSpec', WHERE WHAT IT READS IS OF BULK AT MOST 1048576: true; the input reads as it did. -/
def tierSpecUptoRow : OpenClaim := { program := "ytgjdmnljnimamaa", sum := "bd90709b4c6d53de54746f3a5235ba3509e561cf2f65ca1ae16a218ffa6db901", func := "slopchest/slopchestlaw.TierSpec", spec := "tierSpec", inPlace := ["slices.overlaps[int]"], unfollowed := true, recurses := true, apart := false, narrowed := true }
def TierSpecUptoSaid : Prop := tierSpecUptoRow.holds Try.pinned (OpenSpec.upto tierSpecSpec)

/-- 'slopchestlaw.TierMoves', WHERE WHAT IT READS IS OF BULK AT MOST 1048576: true; the input reads as it did. -/
def tierMovesUptoRow : OpenClaim := { program := "ytgjdmnljnimamaa", sum := "bd90709b4c6d53de54746f3a5235ba3509e561cf2f65ca1ae16a218ffa6db901", func := "slopchest/slopchestlaw.TierMoves", spec := "tierMoves", inPlace := ["slices.overlaps[int]"], unfollowed := true, recurses := true, apart := false, narrowed := true }
def TierMovesUptoSaid : Prop := tierMovesUptoRow.holds Try.pinned (OpenSpec.upto tierMovesSpec)

/-- 'slopchestlaw.TierMerged', WHERE WHAT IT READS IS OF BULK AT MOST 1048576: true; the input reads as it did. -/
def tierMergedUptoRow : OpenClaim := { program := "ytgjdmnljnimamaa", sum := "bd90709b4c6d53de54746f3a5235ba3509e561cf2f65ca1ae16a218ffa6db901", func := "slopchest/slopchestlaw.TierMerged", spec := "tierMerged", inPlace := ["slices.overlaps[int]"], unfollowed := true, recurses := true, apart := false, narrowed := true }
def TierMergedUptoSaid : Prop := tierMergedUptoRow.holds Try.pinned (OpenSpec.upto tierMergedSpec)

/-- 'slopchestlaw.TierNear', WHERE WHAT IT READS IS OF BULK AT MOST 1048576: true; the input reads as it did. -/
def tierNearUptoRow : OpenClaim := { program := "ytgjdmnljnimamaa", sum := "bd90709b4c6d53de54746f3a5235ba3509e561cf2f65ca1ae16a218ffa6db901", func := "slopchest/slopchestlaw.TierNear", spec := "tierNear", inPlace := ["slices.overlaps[int]"], unfollowed := true, recurses := true, apart := false, narrowed := true }
def TierNearUptoSaid : Prop := tierNearUptoRow.holds Try.pinned (OpenSpec.upto tierNearSpec)

/-- 'slopchestlaw.OptimalSpec', WHERE WHAT IT READS IS OF BULK AT MOST 1048576: true; the input reads as it did. -/
def optimalSpecUptoRow : OpenClaim := { program := "ytgjdmnljnimamaa", sum := "bd90709b4c6d53de54746f3a5235ba3509e561cf2f65ca1ae16a218ffa6db901", func := "slopchest/slopchestlaw.OptimalSpec", spec := "optimalSpec", unfollowed := true, recurses := true, apart := false, narrowed := true }
def OptimalSpecUptoSaid : Prop := optimalSpecUptoRow.holds Try.pinned (OpenSpec.upto optimalSpecSpec)

/-- 'slopchestlaw.OptimalFewest', WHERE WHAT IT READS IS OF BULK AT MOST 1048576: true; the input reads as it did. -/
def optimalFewestUptoRow : OpenClaim := { program := "ytgjdmnljnimamaa", sum := "bd90709b4c6d53de54746f3a5235ba3509e561cf2f65ca1ae16a218ffa6db901", func := "slopchest/slopchestlaw.OptimalFewest", spec := "optimalFewest", unfollowed := true, recurses := true, apart := false, narrowed := true }
def OptimalFewestUptoSaid : Prop := optimalFewestUptoRow.holds Try.pinned (OpenSpec.upto optimalFewestSpec)

/-- 'slopchestlaw.OptimalRoom', WHERE WHAT IT READS IS OF BULK AT MOST 1048576: true; the input reads as it did. -/
def optimalRoomUptoRow : OpenClaim := { program := "ytgjdmnljnimamaa", sum := "bd90709b4c6d53de54746f3a5235ba3509e561cf2f65ca1ae16a218ffa6db901", func := "slopchest/slopchestlaw.OptimalRoom", spec := "optimalRoom", inPlace := ["slices.overlaps[int]"], unfollowed := true, recurses := true, apart := false, narrowed := true }
def OptimalRoomUptoSaid : Prop := optimalRoomUptoRow.holds Try.pinned (OpenSpec.upto optimalRoomSpec)

/-- 'slopchestlaw.OptimalBeats', WHERE WHAT IT READS IS OF BULK AT MOST 1048576: true; the input reads as it did. -/
def optimalBeatsUptoRow : OpenClaim := { program := "ytgjdmnljnimamaa", sum := "bd90709b4c6d53de54746f3a5235ba3509e561cf2f65ca1ae16a218ffa6db901", func := "slopchest/slopchestlaw.OptimalBeats", spec := "optimalBeats", inPlace := ["slices.overlaps[int]", "slices.overlaps[slopchest/api.Use]"], unfollowed := true, recurses := true, apart := false, narrowed := true }
def OptimalBeatsUptoSaid : Prop := optimalBeatsUptoRow.holds Try.pinned (OpenSpec.upto optimalBeatsSpec)

end Rows
end Go.Proofs.Ytgjdmnljnimamaa
