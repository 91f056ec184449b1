/-
  No cell of these rows narrows 'for every input' (looked for: loops, veiled, ifaces, maps, wideKeys, modest, calm, conditions, laid).
  DERIVED. THE GIVEN ROWS OF THIS SEAT. 12 by the template 'for every input the law returns true; each argument reads behind the call as it read before'; 0 by the template 'total and deterministic' (their statements: YthecfjipaepcgaaTotals.lean).
  GIVEN WITH THE SEED: the statements are not yours to turn. If you find one false, say at which input.
  Laid BY PROGRAM, IN A SANDBOX (cutbox-rows.mjs): the forced cells as the released guide's own fill.sh prints them over the translation 45cf5cbf7adf48cb… (all of the seat's roots in one cut). By AI agents, Wed Nov 11 2026. No macro, syntax, notation, axiom, sorry.
-/
import Derived.Test.YthecfjipaepcgaaChecked
import GoSem.Claim
import GoSem.ClaimJoined
import GoSem.ClaimMapViews
import Derived.JoinedTies
import Derived.KernelRfl
namespace Go.Proofs.Ythecfjipaepcgaa
/- THE CELL 'sum', in the pinned program and in every row, IS THE sha256 OF THE DUMP (.gsa) THAT YthecfjipaepcgaaProg.lean LOADS. Nothing in Lean hashes anything: it is a label: what it is worth is what the hold of that sum in a sandbox is worth. -/
noncomputable def Try.pinned : Pinned := { name := "ythecfjipaepcgaa", sum := "45cf5cbf7adf48cb9d766b0e4f0532ee3981fca5b4b2553ffd1c0562c1b6eaae", checked := Try.checked }
namespace Rows
def none {H : Type} : Left H := { results := [], args := [] }

/-- 'slopchestlaw.TableSpec': WHATEVER THE INPUT: true; the input reads as it did. -/
def tableSpecSpec : ChangeSpec := { name := "tableSpec", fn := fun _ => fun
  | [d1, d2, d3, d4] => { results := [.lit (.bool true)], args := [d1, d2, d3, d4] }
  | _ => none }
def tableSpecRow : OpenClaim := { program := "ythecfjipaepcgaa", sum := "45cf5cbf7adf48cb9d766b0e4f0532ee3981fca5b4b2553ffd1c0562c1b6eaae", func := "slopchest/slopchestlaw.TableSpec", spec := "tableSpec", unfollowed := true, recurses := true, apart := false }
def TableSpecSaid : Prop := tableSpecRow.holds Try.pinned (OpenSpec.ofChange tableSpecSpec)

/-- ITS FALSE NEIGHBOUR: 'it returns false'. Refute it at one input. -/
def tableSpecWrong : ChangeSpec := { name := "tableSpec", fn := fun _ => fun
  | [d1, d2, d3, d4] => { results := [.lit (.bool false)], args := [d1, d2, d3, d4] }
  | _ => none }
def TableSpecWrongFalsely : Prop := tableSpecRow.holds Try.pinned (OpenSpec.ofChange tableSpecWrong)

/-- 'slopchestlaw.TableResizes': WHATEVER THE INPUT: true; the input reads as it did. -/
def tableResizesSpec : ChangeSpec := { name := "tableResizes", fn := fun _ => fun
  | [d1, d2, d3] => { results := [.lit (.bool true)], args := [d1, d2, d3] }
  | _ => none }
def tableResizesRow : OpenClaim := { program := "ythecfjipaepcgaa", sum := "45cf5cbf7adf48cb9d766b0e4f0532ee3981fca5b4b2553ffd1c0562c1b6eaae", func := "slopchest/slopchestlaw.TableResizes", spec := "tableResizes", unfollowed := true, recurses := true, apart := false }
def TableResizesSaid : Prop := tableResizesRow.holds Try.pinned (OpenSpec.ofChange tableResizesSpec)

/-- ITS FALSE NEIGHBOUR: 'it returns false'. Refute it at one input. -/
def tableResizesWrong : ChangeSpec := { name := "tableResizes", fn := fun _ => fun
  | [d1, d2, d3] => { results := [.lit (.bool false)], args := [d1, d2, d3] }
  | _ => none }
def TableResizesWrongFalsely : Prop := tableResizesRow.holds Try.pinned (OpenSpec.ofChange tableResizesWrong)

/-- 'slopchestlaw.TableOrder': WHATEVER THE INPUT: true; the input reads as it did. -/
def tableOrderSpec : ChangeSpec := { name := "tableOrder", fn := fun _ => fun
  | [d1, d2, d3, d4, d5] => { results := [.lit (.bool true)], args := [d1, d2, d3, d4, d5] }
  | _ => none }
def tableOrderRow : OpenClaim := { program := "ythecfjipaepcgaa", sum := "45cf5cbf7adf48cb9d766b0e4f0532ee3981fca5b4b2553ffd1c0562c1b6eaae", func := "slopchest/slopchestlaw.TableOrder", spec := "tableOrder", unfollowed := true, recurses := true, apart := false }
def TableOrderSaid : Prop := tableOrderRow.holds Try.pinned (OpenSpec.ofChange tableOrderSpec)

/-- ITS FALSE NEIGHBOUR: 'it returns false'. Refute it at one input. -/
def tableOrderWrong : ChangeSpec := { name := "tableOrder", fn := fun _ => fun
  | [d1, d2, d3, d4, d5] => { results := [.lit (.bool false)], args := [d1, d2, d3, d4, d5] }
  | _ => none }
def TableOrderWrongFalsely : Prop := tableOrderRow.holds Try.pinned (OpenSpec.ofChange tableOrderWrong)

/-- 'slopchestlaw.ShardMoves': WHATEVER THE INPUT: true; the input reads as it did. -/
def shardMovesSpec : ChangeSpec := { name := "shardMoves", fn := fun _ => fun
  | [d1, d2, d3] => { results := [.lit (.bool true)], args := [d1, d2, d3] }
  | _ => none }
def shardMovesRow : OpenClaim := { program := "ythecfjipaepcgaa", sum := "45cf5cbf7adf48cb9d766b0e4f0532ee3981fca5b4b2553ffd1c0562c1b6eaae", func := "slopchest/slopchestlaw.ShardMoves", spec := "shardMoves", unfollowed := true, recurses := true, apart := false }
def ShardMovesSaid : Prop := shardMovesRow.holds Try.pinned (OpenSpec.ofChange shardMovesSpec)

/-- ITS FALSE NEIGHBOUR: 'it returns false'. Refute it at one input. -/
def shardMovesWrong : ChangeSpec := { name := "shardMoves", fn := fun _ => fun
  | [d1, d2, d3] => { results := [.lit (.bool false)], args := [d1, d2, d3] }
  | _ => none }
def ShardMovesWrongFalsely : Prop := shardMovesRow.holds Try.pinned (OpenSpec.ofChange shardMovesWrong)

/-- 'slopchestlaw.ShardMinimal': WHATEVER THE INPUT: true; the input reads as it did. -/
def shardMinimalSpec : ChangeSpec := { name := "shardMinimal", fn := fun _ => fun
  | [d1, d2, d3] => { results := [.lit (.bool true)], args := [d1, d2, d3] }
  | _ => none }
def shardMinimalRow : OpenClaim := { program := "ythecfjipaepcgaa", sum := "45cf5cbf7adf48cb9d766b0e4f0532ee3981fca5b4b2553ffd1c0562c1b6eaae", func := "slopchest/slopchestlaw.ShardMinimal", spec := "shardMinimal", unfollowed := true, recurses := true, apart := false }
def ShardMinimalSaid : Prop := shardMinimalRow.holds Try.pinned (OpenSpec.ofChange shardMinimalSpec)

/-- ITS FALSE NEIGHBOUR: 'it returns false'. Refute it at one input. -/
def shardMinimalWrong : ChangeSpec := { name := "shardMinimal", fn := fun _ => fun
  | [d1, d2, d3] => { results := [.lit (.bool false)], args := [d1, d2, d3] }
  | _ => none }
def ShardMinimalWrongFalsely : Prop := shardMinimalRow.holds Try.pinned (OpenSpec.ofChange shardMinimalWrong)

/-- 'slopchestlaw.ShardWeight': WHATEVER THE INPUT: true; the input reads as it did. -/
def shardWeightSpec : ChangeSpec := { name := "shardWeight", fn := fun _ => fun
  | [d1, d2, d3] => { results := [.lit (.bool true)], args := [d1, d2, d3] }
  | _ => none }
def shardWeightRow : OpenClaim := { program := "ythecfjipaepcgaa", sum := "45cf5cbf7adf48cb9d766b0e4f0532ee3981fca5b4b2553ffd1c0562c1b6eaae", func := "slopchest/slopchestlaw.ShardWeight", spec := "shardWeight", unfollowed := true, recurses := true, apart := false }
def ShardWeightSaid : Prop := shardWeightRow.holds Try.pinned (OpenSpec.ofChange shardWeightSpec)

/-- ITS FALSE NEIGHBOUR: 'it returns false'. Refute it at one input. -/
def shardWeightWrong : ChangeSpec := { name := "shardWeight", fn := fun _ => fun
  | [d1, d2, d3] => { results := [.lit (.bool false)], args := [d1, d2, d3] }
  | _ => none }
def ShardWeightWrongFalsely : Prop := shardWeightRow.holds Try.pinned (OpenSpec.ofChange shardWeightWrong)

/-- 'slopchestlaw.ShardSpec': WHATEVER THE INPUT: true; the input reads as it did. -/
def shardSpecSpec : ChangeSpec := { name := "shardSpec", fn := fun _ => fun
  | [d1, d2, d3, d4] => { results := [.lit (.bool true)], args := [d1, d2, d3, d4] }
  | _ => none }
def shardSpecRow : OpenClaim := { program := "ythecfjipaepcgaa", sum := "45cf5cbf7adf48cb9d766b0e4f0532ee3981fca5b4b2553ffd1c0562c1b6eaae", func := "slopchest/slopchestlaw.ShardSpec", spec := "shardSpec", unfollowed := true, recurses := true, apart := false }
def ShardSpecSaid : Prop := shardSpecRow.holds Try.pinned (OpenSpec.ofChange shardSpecSpec)

/-- ITS FALSE NEIGHBOUR: 'it returns false'. Refute it at one input. -/
def shardSpecWrong : ChangeSpec := { name := "shardSpec", fn := fun _ => fun
  | [d1, d2, d3, d4] => { results := [.lit (.bool false)], args := [d1, d2, d3, d4] }
  | _ => none }
def ShardSpecWrongFalsely : Prop := shardSpecRow.holds Try.pinned (OpenSpec.ofChange shardSpecWrong)

/-- 'slopchestlaw.WorksetSpec': WHATEVER THE INPUT: true; the input reads as it did. -/
def worksetSpecSpec : ChangeSpec := { name := "worksetSpec", fn := fun _ => fun
  | [d1, d2, d3, d4] => { results := [.lit (.bool true)], args := [d1, d2, d3, d4] }
  | _ => none }
def worksetSpecRow : OpenClaim := { program := "ythecfjipaepcgaa", sum := "45cf5cbf7adf48cb9d766b0e4f0532ee3981fca5b4b2553ffd1c0562c1b6eaae", func := "slopchest/slopchestlaw.WorksetSpec", spec := "worksetSpec", inPlace := ["maps.clone"], unfollowed := true, recurses := true, apart := false }
def WorksetSpecSaid : Prop := worksetSpecRow.holds Try.pinned (OpenSpec.ofChange worksetSpecSpec)

/-- ITS FALSE NEIGHBOUR: 'it returns false'. Refute it at one input. -/
def worksetSpecWrong : ChangeSpec := { name := "worksetSpec", fn := fun _ => fun
  | [d1, d2, d3, d4] => { results := [.lit (.bool false)], args := [d1, d2, d3, d4] }
  | _ => none }
def WorksetSpecWrongFalsely : Prop := worksetSpecRow.holds Try.pinned (OpenSpec.ofChange worksetSpecWrong)

/-- 'slopchestlaw.WorksetGrows': WHATEVER THE INPUT: true; the input reads as it did. -/
def worksetGrowsSpec : ChangeSpec := { name := "worksetGrows", fn := fun _ => fun
  | [d1, d2, d3, d4] => { results := [.lit (.bool true)], args := [d1, d2, d3, d4] }
  | _ => none }
def worksetGrowsRow : OpenClaim := { program := "ythecfjipaepcgaa", sum := "45cf5cbf7adf48cb9d766b0e4f0532ee3981fca5b4b2553ffd1c0562c1b6eaae", func := "slopchest/slopchestlaw.WorksetGrows", spec := "worksetGrows", inPlace := ["maps.clone"], unfollowed := true, recurses := true, apart := false }
def WorksetGrowsSaid : Prop := worksetGrowsRow.holds Try.pinned (OpenSpec.ofChange worksetGrowsSpec)

/-- ITS FALSE NEIGHBOUR: 'it returns false'. Refute it at one input. -/
def worksetGrowsWrong : ChangeSpec := { name := "worksetGrows", fn := fun _ => fun
  | [d1, d2, d3, d4] => { results := [.lit (.bool false)], args := [d1, d2, d3, d4] }
  | _ => none }
def WorksetGrowsWrongFalsely : Prop := worksetGrowsRow.holds Try.pinned (OpenSpec.ofChange worksetGrowsWrong)

/-- 'slopchestlaw.WorksetSteps': WHATEVER THE INPUT: true; the input reads as it did. -/
def worksetStepsSpec : ChangeSpec := { name := "worksetSteps", fn := fun _ => fun
  | [d1, d2] => { results := [.lit (.bool true)], args := [d1, d2] }
  | _ => none }
def worksetStepsRow : OpenClaim := { program := "ythecfjipaepcgaa", sum := "45cf5cbf7adf48cb9d766b0e4f0532ee3981fca5b4b2553ffd1c0562c1b6eaae", func := "slopchest/slopchestlaw.WorksetSteps", spec := "worksetSteps", inPlace := ["maps.clone"], unfollowed := true, recurses := true, apart := false }
def WorksetStepsSaid : Prop := worksetStepsRow.holds Try.pinned (OpenSpec.ofChange worksetStepsSpec)

/-- ITS FALSE NEIGHBOUR: 'it returns false'. Refute it at one input. -/
def worksetStepsWrong : ChangeSpec := { name := "worksetSteps", fn := fun _ => fun
  | [d1, d2] => { results := [.lit (.bool false)], args := [d1, d2] }
  | _ => none }
def WorksetStepsWrongFalsely : Prop := worksetStepsRow.holds Try.pinned (OpenSpec.ofChange worksetStepsWrong)

/-- 'slopchestlaw.WorksetRoom': WHATEVER THE INPUT: true; the input reads as it did. -/
def worksetRoomSpec : ChangeSpec := { name := "worksetRoom", fn := fun _ => fun
  | [d1, d2, d3] => { results := [.lit (.bool true)], args := [d1, d2, d3] }
  | _ => none }
def worksetRoomRow : OpenClaim := { program := "ythecfjipaepcgaa", sum := "45cf5cbf7adf48cb9d766b0e4f0532ee3981fca5b4b2553ffd1c0562c1b6eaae", func := "slopchest/slopchestlaw.WorksetRoom", spec := "worksetRoom", inPlace := ["maps.clone", "slices.overlaps[int]"], unfollowed := true, recurses := true, apart := false }
def WorksetRoomSaid : Prop := worksetRoomRow.holds Try.pinned (OpenSpec.ofChange worksetRoomSpec)

/-- ITS FALSE NEIGHBOUR: 'it returns false'. Refute it at one input. -/
def worksetRoomWrong : ChangeSpec := { name := "worksetRoom", fn := fun _ => fun
  | [d1, d2, d3] => { results := [.lit (.bool false)], args := [d1, d2, d3] }
  | _ => none }
def WorksetRoomWrongFalsely : Prop := worksetRoomRow.holds Try.pinned (OpenSpec.ofChange worksetRoomWrong)

/-- 'slopchesttop.TopShards': WHATEVER THE INPUT: true; the input reads as it did. -/
def topShardsSpec : ChangeSpec := { name := "topShards", fn := fun _ => fun
  | [d1, d2, d3, d4] => { results := [.lit (.bool true)], args := [d1, d2, d3, d4] }
  | _ => none }
def topShardsRow : OpenClaim := { program := "ythecfjipaepcgaa", sum := "45cf5cbf7adf48cb9d766b0e4f0532ee3981fca5b4b2553ffd1c0562c1b6eaae", func := "slopchest/slopchesttop.TopShards", spec := "topShards", inPlace := ["slices.overlaps[int]"], unfollowed := true, recurses := true, apart := false }
def TopShardsSaid : Prop := topShardsRow.holds Try.pinned (OpenSpec.ofChange topShardsSpec)

/-- ITS FALSE NEIGHBOUR: 'it returns false'. Refute it at one input. -/
def topShardsWrong : ChangeSpec := { name := "topShards", fn := fun _ => fun
  | [d1, d2, d3, d4] => { results := [.lit (.bool false)], args := [d1, d2, d3, d4] }
  | _ => none }
def TopShardsWrongFalsely : Prop := topShardsRow.holds Try.pinned (OpenSpec.ofChange topShardsWrong)

/- THE SECOND FORM. 'bulk': how many values and letters a reading holds, each counted each time it is reached (what is shared counts as often as it is met; a slice's spare places count too). A statement '..UptoSaid' is the law's where the arguments, and the package variables that the reading takes, are together of bulk at most 1048576: NARROWER than '..Said'. Prove '..Said' where nothing that the law and all that it calls make is longer than what came in: it says more and counts as full. Else prove '..UptoSaid'. A law counts once. -/
mutual
def uptoBulk {H : Type} : DataW H → Nat
  | .lit (.string bytes) => bytes.length + 1
  | .lit _ => 1
  | .nil => 1
  | .ptr d => uptoBulk d + 1
  | .slice elems spare => uptoBulkAll elems + uptoBulkAll spare + 1
  | .agg parts => uptoBulkAll parts + 1
  | .iface _ d => uptoBulk d + 1
  | .map entries => uptoBulkEntries entries + 1
  | .held _ => 1
def uptoBulkAll {H : Type} : List (DataW H) → Nat
  | [] => 0
  | d :: r => uptoBulk d + uptoBulkAll r
def uptoBulkEntries {H : Type} : List (Lit × DataW H) → Nat
  | [] => 0
  | x :: r => uptoBulkEntry x + uptoBulkEntries r
def uptoBulkEntry {H : Type} : Lit × DataW H → Nat
  | (.string bytes, d) => bytes.length + uptoBulk d + 1
  | (_, d) => uptoBulk d + 1
 end
def uptoSmall : (H : Type) → List (DataW H) → Bool := fun _ ds => decide (uptoBulkAll ds ≤ 1048576)
def OpenSpec.upto (s : _root_.Go.ChangeSpec) : _root_.Go.OpenSpec := { _root_.Go.OpenSpec.ofChange s with cond := some uptoSmall }

/-- 'slopchestlaw.TableSpec', WHERE WHAT IT READS IS OF BULK AT MOST 1048576: true; the input reads as it did. -/
def tableSpecUptoRow : OpenClaim := { program := "ythecfjipaepcgaa", sum := "45cf5cbf7adf48cb9d766b0e4f0532ee3981fca5b4b2553ffd1c0562c1b6eaae", func := "slopchest/slopchestlaw.TableSpec", spec := "tableSpec", unfollowed := true, recurses := true, apart := false, narrowed := true }
def TableSpecUptoSaid : Prop := tableSpecUptoRow.holds Try.pinned (OpenSpec.upto tableSpecSpec)

/-- 'slopchestlaw.TableResizes', WHERE WHAT IT READS IS OF BULK AT MOST 1048576: true; the input reads as it did. -/
def tableResizesUptoRow : OpenClaim := { program := "ythecfjipaepcgaa", sum := "45cf5cbf7adf48cb9d766b0e4f0532ee3981fca5b4b2553ffd1c0562c1b6eaae", func := "slopchest/slopchestlaw.TableResizes", spec := "tableResizes", unfollowed := true, recurses := true, apart := false, narrowed := true }
def TableResizesUptoSaid : Prop := tableResizesUptoRow.holds Try.pinned (OpenSpec.upto tableResizesSpec)

/-- 'slopchestlaw.TableOrder', WHERE WHAT IT READS IS OF BULK AT MOST 1048576: true; the input reads as it did. -/
def tableOrderUptoRow : OpenClaim := { program := "ythecfjipaepcgaa", sum := "45cf5cbf7adf48cb9d766b0e4f0532ee3981fca5b4b2553ffd1c0562c1b6eaae", func := "slopchest/slopchestlaw.TableOrder", spec := "tableOrder", unfollowed := true, recurses := true, apart := false, narrowed := true }
def TableOrderUptoSaid : Prop := tableOrderUptoRow.holds Try.pinned (OpenSpec.upto tableOrderSpec)

/-- 'slopchestlaw.ShardMoves', WHERE WHAT IT READS IS OF BULK AT MOST 1048576: true; the input reads as it did. -/
def shardMovesUptoRow : OpenClaim := { program := "ythecfjipaepcgaa", sum := "45cf5cbf7adf48cb9d766b0e4f0532ee3981fca5b4b2553ffd1c0562c1b6eaae", func := "slopchest/slopchestlaw.ShardMoves", spec := "shardMoves", unfollowed := true, recurses := true, apart := false, narrowed := true }
def ShardMovesUptoSaid : Prop := shardMovesUptoRow.holds Try.pinned (OpenSpec.upto shardMovesSpec)

/-- 'slopchestlaw.ShardMinimal', WHERE WHAT IT READS IS OF BULK AT MOST 1048576: true; the input reads as it did. -/
def shardMinimalUptoRow : OpenClaim := { program := "ythecfjipaepcgaa", sum := "45cf5cbf7adf48cb9d766b0e4f0532ee3981fca5b4b2553ffd1c0562c1b6eaae", func := "slopchest/slopchestlaw.ShardMinimal", spec := "shardMinimal", unfollowed := true, recurses := true, apart := false, narrowed := true }
def ShardMinimalUptoSaid : Prop := shardMinimalUptoRow.holds Try.pinned (OpenSpec.upto shardMinimalSpec)

/-- 'slopchestlaw.ShardWeight', WHERE WHAT IT READS IS OF BULK AT MOST 1048576: true; the input reads as it did. -/
def shardWeightUptoRow : OpenClaim := { program := "ythecfjipaepcgaa", sum := "45cf5cbf7adf48cb9d766b0e4f0532ee3981fca5b4b2553ffd1c0562c1b6eaae", func := "slopchest/slopchestlaw.ShardWeight", spec := "shardWeight", unfollowed := true, recurses := true, apart := false, narrowed := true }
def ShardWeightUptoSaid : Prop := shardWeightUptoRow.holds Try.pinned (OpenSpec.upto shardWeightSpec)

/-- 'slopchestlaw.ShardSpec', WHERE WHAT IT READS IS OF BULK AT MOST 1048576: true; the input reads as it did. -/
def shardSpecUptoRow : OpenClaim := { program := "ythecfjipaepcgaa", sum := "45cf5cbf7adf48cb9d766b0e4f0532ee3981fca5b4b2553ffd1c0562c1b6eaae", func := "slopchest/slopchestlaw.ShardSpec", spec := "shardSpec", unfollowed := true, recurses := true, apart := false, narrowed := true }
def ShardSpecUptoSaid : Prop := shardSpecUptoRow.holds Try.pinned (OpenSpec.upto shardSpecSpec)

/-- 'slopchestlaw.WorksetSpec', WHERE WHAT IT READS IS OF BULK AT MOST 1048576: true; the input reads as it did. -/
def worksetSpecUptoRow : OpenClaim := { program := "ythecfjipaepcgaa", sum := "45cf5cbf7adf48cb9d766b0e4f0532ee3981fca5b4b2553ffd1c0562c1b6eaae", func := "slopchest/slopchestlaw.WorksetSpec", spec := "worksetSpec", inPlace := ["maps.clone"], unfollowed := true, recurses := true, apart := false, narrowed := true }
def WorksetSpecUptoSaid : Prop := worksetSpecUptoRow.holds Try.pinned (OpenSpec.upto worksetSpecSpec)

/-- 'slopchestlaw.WorksetGrows', WHERE WHAT IT READS IS OF BULK AT MOST 1048576: true; the input reads as it did. -/
def worksetGrowsUptoRow : OpenClaim := { program := "ythecfjipaepcgaa", sum := "45cf5cbf7adf48cb9d766b0e4f0532ee3981fca5b4b2553ffd1c0562c1b6eaae", func := "slopchest/slopchestlaw.WorksetGrows", spec := "worksetGrows", inPlace := ["maps.clone"], unfollowed := true, recurses := true, apart := false, narrowed := true }
def WorksetGrowsUptoSaid : Prop := worksetGrowsUptoRow.holds Try.pinned (OpenSpec.upto worksetGrowsSpec)

/-- 'slopchestlaw.WorksetSteps', WHERE WHAT IT READS IS OF BULK AT MOST 1048576: true; the input reads as it did. -/
def worksetStepsUptoRow : OpenClaim := { program := "ythecfjipaepcgaa", sum := "45cf5cbf7adf48cb9d766b0e4f0532ee3981fca5b4b2553ffd1c0562c1b6eaae", func := "slopchest/slopchestlaw.WorksetSteps", spec := "worksetSteps", inPlace := ["maps.clone"], unfollowed := true, recurses := true, apart := false, narrowed := true }
def WorksetStepsUptoSaid : Prop := worksetStepsUptoRow.holds Try.pinned (OpenSpec.upto worksetStepsSpec)

/-- 'slopchestlaw.WorksetRoom', WHERE WHAT IT READS IS OF BULK AT MOST 1048576: true; the input reads as it did. -/
def worksetRoomUptoRow : OpenClaim := { program := "ythecfjipaepcgaa", sum := "45cf5cbf7adf48cb9d766b0e4f0532ee3981fca5b4b2553ffd1c0562c1b6eaae", func := "slopchest/slopchestlaw.WorksetRoom", spec := "worksetRoom", inPlace := ["maps.clone", "slices.overlaps[int]"], unfollowed := true, recurses := true, apart := false, narrowed := true }
def WorksetRoomUptoSaid : Prop := worksetRoomUptoRow.holds Try.pinned (OpenSpec.upto worksetRoomSpec)

/-- 'slopchesttop.TopShards', WHERE WHAT IT READS IS OF BULK AT MOST 1048576: true; the input reads as it did. -/
def topShardsUptoRow : OpenClaim := { program := "ythecfjipaepcgaa", sum := "45cf5cbf7adf48cb9d766b0e4f0532ee3981fca5b4b2553ffd1c0562c1b6eaae", func := "slopchest/slopchesttop.TopShards", spec := "topShards", inPlace := ["slices.overlaps[int]"], unfollowed := true, recurses := true, apart := false, narrowed := true }
def TopShardsUptoSaid : Prop := topShardsUptoRow.holds Try.pinned (OpenSpec.upto topShardsSpec)

end Rows
end Go.Proofs.Ythecfjipaepcgaa
