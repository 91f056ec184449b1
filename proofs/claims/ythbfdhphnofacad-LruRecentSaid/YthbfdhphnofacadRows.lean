/-
  No cell of these rows narrows 'for every input' (looked for: loops, veiled, ifaces, maps, wideKeys, modest, calm, conditions, laid).
  DERIVED. THE GIVEN ROWS OF THIS SEAT. 12 by the template 'for every input the law returns true; each argument reads behind the call as it read before'; 0 by the template 'total and deterministic' (their statements: YthbfdhphnofacadTotals.lean).
  GIVEN WITH THE SEED: the statements are not yours to turn. If you find one false, say at which input.
  Laid BY PROGRAM, IN A SANDBOX (cutbox-rows.mjs): the forced cells as the released guide's own fill.sh prints them over the translation 8c8ac32c0f0423c0… (all of the seat's roots in one cut). By AI agents, Wed Nov 11 2026. No macro, syntax, notation, axiom, sorry.
-/
import Derived.Test.YthbfdhphnofacadChecked
import GoSem.Claim
import GoSem.ClaimJoined
import GoSem.ClaimMapViews
import Derived.JoinedTies
import Derived.KernelRfl
namespace Go.Proofs.Ythbfdhphnofacad
/- THE CELL 'sum', in the pinned program and in every row, IS THE sha256 OF THE DUMP (.gsa) THAT YthbfdhphnofacadProg.lean LOADS. Nothing in Lean hashes anything: it is a label: what it is worth is what the hold of that sum in a sandbox is worth. -/
noncomputable def Try.pinned : Pinned := { name := "ythbfdhphnofacad", sum := "8c8ac32c0f0423c0976daf6ba99700f2f61807266c4dd054e868fd996eced09a", checked := Try.checked }
namespace Rows
def none {H : Type} : Left H := { results := [], args := [] }

/-- 'slopchestlaw.LruInclusion': WHATEVER THE INPUT: true; the input reads as it did. -/
def lruInclusionSpec : ChangeSpec := { name := "lruInclusion", fn := fun _ => fun
  | [d1, d2, d3] => { results := [.lit (.bool true)], args := [d1, d2, d3] }
  | _ => none }
def lruInclusionRow : OpenClaim := { program := "ythbfdhphnofacad", sum := "8c8ac32c0f0423c0976daf6ba99700f2f61807266c4dd054e868fd996eced09a", func := "slopchest/slopchestlaw.LruInclusion", spec := "lruInclusion", inPlace := ["slices.overlaps[int]"], unfollowed := true, recurses := true, apart := false }
def LruInclusionSaid : Prop := lruInclusionRow.holds Try.pinned (OpenSpec.ofChange lruInclusionSpec)

/-- ITS FALSE NEIGHBOUR: 'it returns false'. Refute it at one input. -/
def lruInclusionWrong : ChangeSpec := { name := "lruInclusion", fn := fun _ => fun
  | [d1, d2, d3] => { results := [.lit (.bool false)], args := [d1, d2, d3] }
  | _ => none }
def LruInclusionWrongFalsely : Prop := lruInclusionRow.holds Try.pinned (OpenSpec.ofChange lruInclusionWrong)

/-- 'slopchestlaw.LruParts': WHATEVER THE INPUT: true; the input reads as it did. -/
def lruPartsSpec : ChangeSpec := { name := "lruParts", fn := fun _ => fun
  | [d1, d2, d3] => { results := [.lit (.bool true)], args := [d1, d2, d3] }
  | _ => none }
def lruPartsRow : OpenClaim := { program := "ythbfdhphnofacad", sum := "8c8ac32c0f0423c0976daf6ba99700f2f61807266c4dd054e868fd996eced09a", func := "slopchest/slopchestlaw.LruParts", spec := "lruParts", inPlace := ["slices.overlaps[int]"], unfollowed := true, recurses := true, apart := false }
def LruPartsSaid : Prop := lruPartsRow.holds Try.pinned (OpenSpec.ofChange lruPartsSpec)

/-- ITS FALSE NEIGHBOUR: 'it returns false'. Refute it at one input. -/
def lruPartsWrong : ChangeSpec := { name := "lruParts", fn := fun _ => fun
  | [d1, d2, d3] => { results := [.lit (.bool false)], args := [d1, d2, d3] }
  | _ => none }
def LruPartsWrongFalsely : Prop := lruPartsRow.holds Try.pinned (OpenSpec.ofChange lruPartsWrong)

/-- 'slopchestlaw.LruRecent': WHATEVER THE INPUT: true; the input reads as it did. -/
def lruRecentSpec : ChangeSpec := { name := "lruRecent", fn := fun _ => fun
  | [d1, d2, d3] => { results := [.lit (.bool true)], args := [d1, d2, d3] }
  | _ => none }
def lruRecentRow : OpenClaim := { program := "ythbfdhphnofacad", sum := "8c8ac32c0f0423c0976daf6ba99700f2f61807266c4dd054e868fd996eced09a", func := "slopchest/slopchestlaw.LruRecent", spec := "lruRecent", inPlace := ["slices.overlaps[int]"], unfollowed := true, recurses := true, apart := false }
def LruRecentSaid : Prop := lruRecentRow.holds Try.pinned (OpenSpec.ofChange lruRecentSpec)

/-- ITS FALSE NEIGHBOUR: 'it returns false'. Refute it at one input. -/
def lruRecentWrong : ChangeSpec := { name := "lruRecent", fn := fun _ => fun
  | [d1, d2, d3] => { results := [.lit (.bool false)], args := [d1, d2, d3] }
  | _ => none }
def LruRecentWrongFalsely : Prop := lruRecentRow.holds Try.pinned (OpenSpec.ofChange lruRecentWrong)

/-- 'slopchestlaw.ExpireSpec': WHATEVER THE INPUT: true; the input reads as it did. -/
def expireSpecSpec : ChangeSpec := { name := "expireSpec", fn := fun _ => fun
  | [d1, d2, d3, d4] => { results := [.lit (.bool true)], args := [d1, d2, d3, d4] }
  | _ => none }
def expireSpecRow : OpenClaim := { program := "ythbfdhphnofacad", sum := "8c8ac32c0f0423c0976daf6ba99700f2f61807266c4dd054e868fd996eced09a", func := "slopchest/slopchestlaw.ExpireSpec", spec := "expireSpec", inPlace := ["slices.overlaps[slopchest/api.Entry]"], unfollowed := true, recurses := true, apart := false }
def ExpireSpecSaid : Prop := expireSpecRow.holds Try.pinned (OpenSpec.ofChange expireSpecSpec)

/-- ITS FALSE NEIGHBOUR: 'it returns false'. Refute it at one input. -/
def expireSpecWrong : ChangeSpec := { name := "expireSpec", fn := fun _ => fun
  | [d1, d2, d3, d4] => { results := [.lit (.bool false)], args := [d1, d2, d3, d4] }
  | _ => none }
def ExpireSpecWrongFalsely : Prop := expireSpecRow.holds Try.pinned (OpenSpec.ofChange expireSpecWrong)

/-- 'slopchestlaw.ExpireLifetime': WHATEVER THE INPUT: true; the input reads as it did. -/
def expireLifetimeSpec : ChangeSpec := { name := "expireLifetime", fn := fun _ => fun
  | [d1, d2, d3, d4, d5] => { results := [.lit (.bool true)], args := [d1, d2, d3, d4, d5] }
  | _ => none }
def expireLifetimeRow : OpenClaim := { program := "ythbfdhphnofacad", sum := "8c8ac32c0f0423c0976daf6ba99700f2f61807266c4dd054e868fd996eced09a", func := "slopchest/slopchestlaw.ExpireLifetime", spec := "expireLifetime", inPlace := ["slices.overlaps[slopchest/api.Entry]"], unfollowed := true, recurses := true, apart := false }
def ExpireLifetimeSaid : Prop := expireLifetimeRow.holds Try.pinned (OpenSpec.ofChange expireLifetimeSpec)

/-- ITS FALSE NEIGHBOUR: 'it returns false'. Refute it at one input. -/
def expireLifetimeWrong : ChangeSpec := { name := "expireLifetime", fn := fun _ => fun
  | [d1, d2, d3, d4, d5] => { results := [.lit (.bool false)], args := [d1, d2, d3, d4, d5] }
  | _ => none }
def ExpireLifetimeWrongFalsely : Prop := expireLifetimeRow.holds Try.pinned (OpenSpec.ofChange expireLifetimeWrong)

/-- 'slopchestlaw.ExpireSweeps': WHATEVER THE INPUT: true; the input reads as it did. -/
def expireSweepsSpec : ChangeSpec := { name := "expireSweeps", fn := fun _ => fun
  | [d1, d2, d3, d4] => { results := [.lit (.bool true)], args := [d1, d2, d3, d4] }
  | _ => none }
def expireSweepsRow : OpenClaim := { program := "ythbfdhphnofacad", sum := "8c8ac32c0f0423c0976daf6ba99700f2f61807266c4dd054e868fd996eced09a", func := "slopchest/slopchestlaw.ExpireSweeps", spec := "expireSweeps", inPlace := ["slices.overlaps[slopchest/api.Entry]"], unfollowed := true, recurses := true, apart := false }
def ExpireSweepsSaid : Prop := expireSweepsRow.holds Try.pinned (OpenSpec.ofChange expireSweepsSpec)

/-- ITS FALSE NEIGHBOUR: 'it returns false'. Refute it at one input. -/
def expireSweepsWrong : ChangeSpec := { name := "expireSweeps", fn := fun _ => fun
  | [d1, d2, d3, d4] => { results := [.lit (.bool false)], args := [d1, d2, d3, d4] }
  | _ => none }
def ExpireSweepsWrongFalsely : Prop := expireSweepsRow.holds Try.pinned (OpenSpec.ofChange expireSweepsWrong)

/-- 'slopchestlaw.ExpireOthers': WHATEVER THE INPUT: true; the input reads as it did. -/
def expireOthersSpec : ChangeSpec := { name := "expireOthers", fn := fun _ => fun
  | [d1, d2, d3, d4, d5, d6] => { results := [.lit (.bool true)], args := [d1, d2, d3, d4, d5, d6] }
  | _ => none }
def expireOthersRow : OpenClaim := { program := "ythbfdhphnofacad", sum := "8c8ac32c0f0423c0976daf6ba99700f2f61807266c4dd054e868fd996eced09a", func := "slopchest/slopchestlaw.ExpireOthers", spec := "expireOthers", inPlace := ["slices.overlaps[slopchest/api.Entry]"], unfollowed := true, recurses := true, apart := false }
def ExpireOthersSaid : Prop := expireOthersRow.holds Try.pinned (OpenSpec.ofChange expireOthersSpec)

/-- ITS FALSE NEIGHBOUR: 'it returns false'. Refute it at one input. -/
def expireOthersWrong : ChangeSpec := { name := "expireOthers", fn := fun _ => fun
  | [d1, d2, d3, d4, d5, d6] => { results := [.lit (.bool false)], args := [d1, d2, d3, d4, d5, d6] }
  | _ => none }
def ExpireOthersWrongFalsely : Prop := expireOthersRow.holds Try.pinned (OpenSpec.ofChange expireOthersWrong)

/-- 'slopchestlaw.ShardMoves': WHATEVER THE INPUT: true; the input reads as it did. -/
def shardMovesSpec : ChangeSpec := { name := "shardMoves", fn := fun _ => fun
  | [d1, d2, d3] => { results := [.lit (.bool true)], args := [d1, d2, d3] }
  | _ => none }
def shardMovesRow : OpenClaim := { program := "ythbfdhphnofacad", sum := "8c8ac32c0f0423c0976daf6ba99700f2f61807266c4dd054e868fd996eced09a", func := "slopchest/slopchestlaw.ShardMoves", spec := "shardMoves", unfollowed := true, recurses := true, apart := false }
def ShardMovesSaid : Prop := shardMovesRow.holds Try.pinned (OpenSpec.ofChange shardMovesSpec)

/-- ITS FALSE NEIGHBOUR: 'it returns false'. Refute it at one input. -/
def shardMovesWrong : ChangeSpec := { name := "shardMoves", fn := fun _ => fun
  | [d1, d2, d3] => { results := [.lit (.bool false)], args := [d1, d2, d3] }
  | _ => none }
def ShardMovesWrongFalsely : Prop := shardMovesRow.holds Try.pinned (OpenSpec.ofChange shardMovesWrong)

/-- 'slopchestlaw.ShardMinimal': WHATEVER THE INPUT: true; the input reads as it did. -/
def shardMinimalSpec : ChangeSpec := { name := "shardMinimal", fn := fun _ => fun
  | [d1, d2, d3] => { results := [.lit (.bool true)], args := [d1, d2, d3] }
  | _ => none }
def shardMinimalRow : OpenClaim := { program := "ythbfdhphnofacad", sum := "8c8ac32c0f0423c0976daf6ba99700f2f61807266c4dd054e868fd996eced09a", func := "slopchest/slopchestlaw.ShardMinimal", spec := "shardMinimal", unfollowed := true, recurses := true, apart := false }
def ShardMinimalSaid : Prop := shardMinimalRow.holds Try.pinned (OpenSpec.ofChange shardMinimalSpec)

/-- ITS FALSE NEIGHBOUR: 'it returns false'. Refute it at one input. -/
def shardMinimalWrong : ChangeSpec := { name := "shardMinimal", fn := fun _ => fun
  | [d1, d2, d3] => { results := [.lit (.bool false)], args := [d1, d2, d3] }
  | _ => none }
def ShardMinimalWrongFalsely : Prop := shardMinimalRow.holds Try.pinned (OpenSpec.ofChange shardMinimalWrong)

/-- 'slopchestlaw.ShardWeight': WHATEVER THE INPUT: true; the input reads as it did. -/
def shardWeightSpec : ChangeSpec := { name := "shardWeight", fn := fun _ => fun
  | [d1, d2, d3] => { results := [.lit (.bool true)], args := [d1, d2, d3] }
  | _ => none }
def shardWeightRow : OpenClaim := { program := "ythbfdhphnofacad", sum := "8c8ac32c0f0423c0976daf6ba99700f2f61807266c4dd054e868fd996eced09a", func := "slopchest/slopchestlaw.ShardWeight", spec := "shardWeight", unfollowed := true, recurses := true, apart := false }
def ShardWeightSaid : Prop := shardWeightRow.holds Try.pinned (OpenSpec.ofChange shardWeightSpec)

/-- ITS FALSE NEIGHBOUR: 'it returns false'. Refute it at one input. -/
def shardWeightWrong : ChangeSpec := { name := "shardWeight", fn := fun _ => fun
  | [d1, d2, d3] => { results := [.lit (.bool false)], args := [d1, d2, d3] }
  | _ => none }
def ShardWeightWrongFalsely : Prop := shardWeightRow.holds Try.pinned (OpenSpec.ofChange shardWeightWrong)

/-- 'slopchesttop.TopDepths': WHATEVER THE INPUT: true; the input reads as it did. -/
def topDepthsSpec : ChangeSpec := { name := "topDepths", fn := fun _ => fun
  | [d1, d2, d3] => { results := [.lit (.bool true)], args := [d1, d2, d3] }
  | _ => none }
def topDepthsRow : OpenClaim := { program := "ythbfdhphnofacad", sum := "8c8ac32c0f0423c0976daf6ba99700f2f61807266c4dd054e868fd996eced09a", func := "slopchest/slopchesttop.TopDepths", spec := "topDepths", inPlace := ["slices.overlaps[int]"], unfollowed := true, recurses := true, apart := false }
def TopDepthsSaid : Prop := topDepthsRow.holds Try.pinned (OpenSpec.ofChange topDepthsSpec)

/-- ITS FALSE NEIGHBOUR: 'it returns false'. Refute it at one input. -/
def topDepthsWrong : ChangeSpec := { name := "topDepths", fn := fun _ => fun
  | [d1, d2, d3] => { results := [.lit (.bool false)], args := [d1, d2, d3] }
  | _ => none }
def TopDepthsWrongFalsely : Prop := topDepthsRow.holds Try.pinned (OpenSpec.ofChange topDepthsWrong)

/-- 'slopchestlaw.LfuSpec': WHATEVER THE INPUT: true; the input reads as it did. -/
def lfuSpecSpec : ChangeSpec := { name := "lfuSpec", fn := fun _ => fun
  | [d1, d2, d3] => { results := [.lit (.bool true)], args := [d1, d2, d3] }
  | _ => none }
def lfuSpecRow : OpenClaim := { program := "ythbfdhphnofacad", sum := "8c8ac32c0f0423c0976daf6ba99700f2f61807266c4dd054e868fd996eced09a", func := "slopchest/slopchestlaw.LfuSpec", spec := "lfuSpec", inPlace := ["slices.overlaps[slopchest/api.Use]"], unfollowed := true, recurses := true, apart := false }
def LfuSpecSaid : Prop := lfuSpecRow.holds Try.pinned (OpenSpec.ofChange lfuSpecSpec)

/-- ITS FALSE NEIGHBOUR: 'it returns false'. Refute it at one input. -/
def lfuSpecWrong : ChangeSpec := { name := "lfuSpec", fn := fun _ => fun
  | [d1, d2, d3] => { results := [.lit (.bool false)], args := [d1, d2, d3] }
  | _ => none }
def LfuSpecWrongFalsely : Prop := lfuSpecRow.holds Try.pinned (OpenSpec.ofChange lfuSpecWrong)

/- THE SECOND FORM. 'bulk': how many values and letters a reading holds, each counted each time it is reached (what is shared counts as often as it is met; a slice's spare places count too). A statement '..UptoSaid' is the law's where the arguments, and the package variables that the reading takes, are together of bulk at most 1048576: NARROWER than '..Said'. Prove '..Said' where nothing that the law and all that it calls make is longer than what came in: it says more and counts as full. Else prove '..UptoSaid'. A law counts once. -/
mutual
def uptoBulk {H : Type} : DataW H → Nat
  | .lit (.string bytes) => bytes.length + 1
  | .lit _ => 1
  | .nil => 1
  | .ptr d => uptoBulk d + 1
  | .slice elems spare => uptoBulkAll elems + uptoBulkAll spare + 1
  | .agg parts => uptoBulkAll parts + 1
  | .iface _ d => uptoBulk d + 1
  | .map entries => uptoBulkEntries entries + 1
  | .held _ => 1
def uptoBulkAll {H : Type} : List (DataW H) → Nat
  | [] => 0
  | d :: r => uptoBulk d + uptoBulkAll r
def uptoBulkEntries {H : Type} : List (Lit × DataW H) → Nat
  | [] => 0
  | x :: r => uptoBulkEntry x + uptoBulkEntries r
def uptoBulkEntry {H : Type} : Lit × DataW H → Nat
  | (.string bytes, d) => bytes.length + uptoBulk d + 1
  | (_, d) => uptoBulk d + 1
 end
def uptoSmall : (H : Type) → List (DataW H) → Bool := fun _ ds => decide (uptoBulkAll ds ≤ 1048576)
def OpenSpec.upto (s : _root_.Go.ChangeSpec) : _root_.Go.OpenSpec := { _root_.Go.OpenSpec.ofChange s with cond := some uptoSmall }

/-- 'slopchestlaw.LruInclusion', WHERE WHAT IT READS IS OF BULK AT MOST 1048576: true; the input reads as it did. -/
def lruInclusionUptoRow : OpenClaim := { program := "ythbfdhphnofacad", sum := "8c8ac32c0f0423c0976daf6ba99700f2f61807266c4dd054e868fd996eced09a", func := "slopchest/slopchestlaw.LruInclusion", spec := "lruInclusion", inPlace := ["slices.overlaps[int]"], unfollowed := true, recurses := true, apart := false, narrowed := true }
def LruInclusionUptoSaid : Prop := lruInclusionUptoRow.holds Try.pinned (OpenSpec.upto lruInclusionSpec)

/-- 'slopchestlaw.LruParts', WHERE WHAT IT READS IS OF BULK AT MOST 1048576: true; the input reads as it did. -/
def lruPartsUptoRow : OpenClaim := { program := "ythbfdhphnofacad", sum := "8c8ac32c0f0423c0976daf6ba99700f2f61807266c4dd054e868fd996eced09a", func := "slopchest/slopchestlaw.LruParts", spec := "lruParts", inPlace := ["slices.overlaps[int]"], unfollowed := true, recurses := true, apart := false, narrowed := true }
def LruPartsUptoSaid : Prop := lruPartsUptoRow.holds Try.pinned (OpenSpec.upto lruPartsSpec)

/-- 'slopchestlaw.LruRecent', WHERE WHAT IT READS IS OF BULK AT MOST 1048576: true; the input reads as it did. -/
def lruRecentUptoRow : OpenClaim := { program := "ythbfdhphnofacad", sum := "8c8ac32c0f0423c0976daf6ba99700f2f61807266c4dd054e868fd996eced09a", func := "slopchest/slopchestlaw.LruRecent", spec := "lruRecent", inPlace := ["slices.overlaps[int]"], unfollowed := true, recurses := true, apart := false, narrowed := true }
def LruRecentUptoSaid : Prop := lruRecentUptoRow.holds Try.pinned (OpenSpec.upto lruRecentSpec)

/-- 'slopchestlaw.ExpireSpec', WHERE WHAT IT READS IS OF BULK AT MOST 1048576: true; the input reads as it did. -/
def expireSpecUptoRow : OpenClaim := { program := "ythbfdhphnofacad", sum := "8c8ac32c0f0423c0976daf6ba99700f2f61807266c4dd054e868fd996eced09a", func := "slopchest/slopchestlaw.ExpireSpec", spec := "expireSpec", inPlace := ["slices.overlaps[slopchest/api.Entry]"], unfollowed := true, recurses := true, apart := false, narrowed := true }
def ExpireSpecUptoSaid : Prop := expireSpecUptoRow.holds Try.pinned (OpenSpec.upto expireSpecSpec)

/-- 'slopchestlaw.ExpireLifetime', WHERE WHAT IT READS IS OF BULK AT MOST 1048576: true; the input reads as it did. -/
def expireLifetimeUptoRow : OpenClaim := { program := "ythbfdhphnofacad", sum := "8c8ac32c0f0423c0976daf6ba99700f2f61807266c4dd054e868fd996eced09a", func := "slopchest/slopchestlaw.ExpireLifetime", spec := "expireLifetime", inPlace := ["slices.overlaps[slopchest/api.Entry]"], unfollowed := true, recurses := true, apart := false, narrowed := true }
def ExpireLifetimeUptoSaid : Prop := expireLifetimeUptoRow.holds Try.pinned (OpenSpec.upto expireLifetimeSpec)

/-- 'slopchestlaw.ExpireSweeps', WHERE WHAT IT READS IS OF BULK AT MOST 1048576: true; the input reads as it did. -/
def expireSweepsUptoRow : OpenClaim := { program := "ythbfdhphnofacad", sum := "8c8ac32c0f0423c0976daf6ba99700f2f61807266c4dd054e868fd996eced09a", func := "slopchest/slopchestlaw.ExpireSweeps", spec := "expireSweeps", inPlace := ["slices.overlaps[slopchest/api.Entry]"], unfollowed := true, recurses := true, apart := false, narrowed := true }
def ExpireSweepsUptoSaid : Prop := expireSweepsUptoRow.holds Try.pinned (OpenSpec.upto expireSweepsSpec)

/-- 'slopchestlaw.ExpireOthers', WHERE WHAT IT READS IS OF BULK AT MOST 1048576: true; the input reads as it did. -/
def expireOthersUptoRow : OpenClaim := { program := "ythbfdhphnofacad", sum := "8c8ac32c0f0423c0976daf6ba99700f2f61807266c4dd054e868fd996eced09a", func := "slopchest/slopchestlaw.ExpireOthers", spec := "expireOthers", inPlace := ["slices.overlaps[slopchest/api.Entry]"], unfollowed := true, recurses := true, apart := false, narrowed := true }
def ExpireOthersUptoSaid : Prop := expireOthersUptoRow.holds Try.pinned (OpenSpec.upto expireOthersSpec)

/-- 'slopchestlaw.ShardMoves', WHERE WHAT IT READS IS OF BULK AT MOST 1048576: true; the input reads as it did. -/
def shardMovesUptoRow : OpenClaim := { program := "ythbfdhphnofacad", sum := "8c8ac32c0f0423c0976daf6ba99700f2f61807266c4dd054e868fd996eced09a", func := "slopchest/slopchestlaw.ShardMoves", spec := "shardMoves", unfollowed := true, recurses := true, apart := false, narrowed := true }
def ShardMovesUptoSaid : Prop := shardMovesUptoRow.holds Try.pinned (OpenSpec.upto shardMovesSpec)

/-- 'slopchestlaw.ShardMinimal', WHERE WHAT IT READS IS OF BULK AT MOST 1048576: true; the input reads as it did. -/
def shardMinimalUptoRow : OpenClaim := { program := "ythbfdhphnofacad", sum := "8c8ac32c0f0423c0976daf6ba99700f2f61807266c4dd054e868fd996eced09a", func := "slopchest/slopchestlaw.ShardMinimal", spec := "shardMinimal", unfollowed := true, recurses := true, apart := false, narrowed := true }
def ShardMinimalUptoSaid : Prop := shardMinimalUptoRow.holds Try.pinned (OpenSpec.upto shardMinimalSpec)

/-- 'slopchestlaw.ShardWeight', WHERE WHAT IT READS IS OF BULK AT MOST 1048576: true; the input reads as it did. -/
def shardWeightUptoRow : OpenClaim := { program := "ythbfdhphnofacad", sum := "8c8ac32c0f0423c0976daf6ba99700f2f61807266c4dd054e868fd996eced09a", func := "slopchest/slopchestlaw.ShardWeight", spec := "shardWeight", unfollowed := true, recurses := true, apart := false, narrowed := true }
def ShardWeightUptoSaid : Prop := shardWeightUptoRow.holds Try.pinned (OpenSpec.upto shardWeightSpec)

/-- 'slopchesttop.TopDepths', WHERE WHAT IT READS IS OF BULK AT MOST 1048576: true; the input reads as it did. -/
def topDepthsUptoRow : OpenClaim := { program := "ythbfdhphnofacad", sum := "8c8ac32c0f0423c0976daf6ba99700f2f61807266c4dd054e868fd996eced09a", func := "slopchest/slopchesttop.TopDepths", spec := "topDepths", inPlace := ["slices.overlaps[int]"], unfollowed := true, recurses := true, apart := false, narrowed := true }
def TopDepthsUptoSaid : Prop := topDepthsUptoRow.holds Try.pinned (OpenSpec.upto topDepthsSpec)

/-- 'slopchestlaw.LfuSpec', WHERE WHAT IT READS IS OF BULK AT MOST 1048576: true; the input reads as it did. -/
def lfuSpecUptoRow : OpenClaim := { program := "ythbfdhphnofacad", sum := "8c8ac32c0f0423c0976daf6ba99700f2f61807266c4dd054e868fd996eced09a", func := "slopchest/slopchestlaw.LfuSpec", spec := "lfuSpec", inPlace := ["slices.overlaps[slopchest/api.Use]"], unfollowed := true, recurses := true, apart := false, narrowed := true }
def LfuSpecUptoSaid : Prop := lfuSpecUptoRow.holds Try.pinned (OpenSpec.upto lfuSpecSpec)

end Rows
end Go.Proofs.Ythbfdhphnofacad
