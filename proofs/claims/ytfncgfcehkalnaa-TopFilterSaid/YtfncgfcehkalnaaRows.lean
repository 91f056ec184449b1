/-
  No cell of these rows narrows 'for every input' (looked for: loops, veiled, ifaces, maps, wideKeys, modest, calm, conditions, laid).
  DERIVED. THE GIVEN ROWS OF THIS SEAT. 7 by the template 'for every input the law returns true; each argument reads behind the call as it read before'; 0 by the template 'total and deterministic' (their statements: YtfncgfcehkalnaaTotals.lean).
  GIVEN WITH THE SEED: the statements are not yours to turn. If you find one false, say at which input.
  Laid BY PROGRAM, IN A SANDBOX (cutbox-rows.mjs): the forced cells as the released guide's own fill.sh prints them over the translation dd90cc452eadda05… (all of the seat's roots in one cut). By AI agents, Wed Nov 11 2026. No macro, syntax, notation, axiom, sorry.
-/
import Derived.Test.YtfncgfcehkalnaaChecked
import GoSem.Claim
import GoSem.ClaimJoined
import GoSem.ClaimMapViews
import Derived.JoinedTies
import Derived.KernelRfl
namespace Go.Proofs.Ytfncgfcehkalnaa
/- THE CELL 'sum', in the pinned program and in every row, IS THE sha256 OF THE DUMP (.gsa) THAT YtfncgfcehkalnaaProg.lean LOADS. Nothing in Lean hashes anything: it is a label: what it is worth is what the hold of that sum in a sandbox is worth. -/
noncomputable def Try.pinned : Pinned := { name := "ytfncgfcehkalnaa", sum := "dd90cc452eadda05065805109157b6fee9f9070cf440aad930712604cf2c89b3", checked := Try.checked }
namespace Rows
def none {H : Type} : Left H := { results := [], args := [] }

/-- 'slopchestlaw.BloomSpec': WHATEVER THE INPUT: true; the input reads as it did. -/
def bloomSpecSpec : ChangeSpec := { name := "bloomSpec", fn := fun _ => fun
  | [d1, d2, d3] => { results := [.lit (.bool true)], args := [d1, d2, d3] }
  | _ => none }
def bloomSpecRow : OpenClaim := { program := "ytfncgfcehkalnaa", sum := "dd90cc452eadda05065805109157b6fee9f9070cf440aad930712604cf2c89b3", func := "slopchest/slopchestlaw.BloomSpec", spec := "bloomSpec", unfollowed := true, recurses := true, apart := false }
def BloomSpecSaid : Prop := bloomSpecRow.holds Try.pinned (OpenSpec.ofChange bloomSpecSpec)

/-- ITS FALSE NEIGHBOUR: 'it returns false'. Refute it at one input. -/
def bloomSpecWrong : ChangeSpec := { name := "bloomSpec", fn := fun _ => fun
  | [d1, d2, d3] => { results := [.lit (.bool false)], args := [d1, d2, d3] }
  | _ => none }
def BloomSpecWrongFalsely : Prop := bloomSpecRow.holds Try.pinned (OpenSpec.ofChange bloomSpecWrong)

/-- 'slopchestlaw.BloomNoFalseNegative': WHATEVER THE INPUT: true; the input reads as it did. -/
def bloomNoFalseNegativeSpec : ChangeSpec := { name := "bloomNoFalseNegative", fn := fun _ => fun
  | [d1, d2, d3] => { results := [.lit (.bool true)], args := [d1, d2, d3] }
  | _ => none }
def bloomNoFalseNegativeRow : OpenClaim := { program := "ytfncgfcehkalnaa", sum := "dd90cc452eadda05065805109157b6fee9f9070cf440aad930712604cf2c89b3", func := "slopchest/slopchestlaw.BloomNoFalseNegative", spec := "bloomNoFalseNegative", unfollowed := true, recurses := true, apart := false }
def BloomNoFalseNegativeSaid : Prop := bloomNoFalseNegativeRow.holds Try.pinned (OpenSpec.ofChange bloomNoFalseNegativeSpec)

/-- ITS FALSE NEIGHBOUR: 'it returns false'. Refute it at one input. -/
def bloomNoFalseNegativeWrong : ChangeSpec := { name := "bloomNoFalseNegative", fn := fun _ => fun
  | [d1, d2, d3] => { results := [.lit (.bool false)], args := [d1, d2, d3] }
  | _ => none }
def BloomNoFalseNegativeWrongFalsely : Prop := bloomNoFalseNegativeRow.holds Try.pinned (OpenSpec.ofChange bloomNoFalseNegativeWrong)

/-- 'slopchestlaw.BloomUnion': WHATEVER THE INPUT: true; the input reads as it did. -/
def bloomUnionSpec : ChangeSpec := { name := "bloomUnion", fn := fun _ => fun
  | [d1, d2, d3, d4] => { results := [.lit (.bool true)], args := [d1, d2, d3, d4] }
  | _ => none }
def bloomUnionRow : OpenClaim := { program := "ytfncgfcehkalnaa", sum := "dd90cc452eadda05065805109157b6fee9f9070cf440aad930712604cf2c89b3", func := "slopchest/slopchestlaw.BloomUnion", spec := "bloomUnion", unfollowed := true, recurses := true, apart := false }
def BloomUnionSaid : Prop := bloomUnionRow.holds Try.pinned (OpenSpec.ofChange bloomUnionSpec)

/-- ITS FALSE NEIGHBOUR: 'it returns false'. Refute it at one input. -/
def bloomUnionWrong : ChangeSpec := { name := "bloomUnion", fn := fun _ => fun
  | [d1, d2, d3, d4] => { results := [.lit (.bool false)], args := [d1, d2, d3, d4] }
  | _ => none }
def BloomUnionWrongFalsely : Prop := bloomUnionRow.holds Try.pinned (OpenSpec.ofChange bloomUnionWrong)

/-- 'slopchestlaw.BloomFold': WHATEVER THE INPUT: true; the input reads as it did. -/
def bloomFoldSpec : ChangeSpec := { name := "bloomFold", fn := fun _ => fun
  | [d1, d2, d3] => { results := [.lit (.bool true)], args := [d1, d2, d3] }
  | _ => none }
def bloomFoldRow : OpenClaim := { program := "ytfncgfcehkalnaa", sum := "dd90cc452eadda05065805109157b6fee9f9070cf440aad930712604cf2c89b3", func := "slopchest/slopchestlaw.BloomFold", spec := "bloomFold", unfollowed := true, recurses := true, apart := false }
def BloomFoldSaid : Prop := bloomFoldRow.holds Try.pinned (OpenSpec.ofChange bloomFoldSpec)

/-- ITS FALSE NEIGHBOUR: 'it returns false'. Refute it at one input. -/
def bloomFoldWrong : ChangeSpec := { name := "bloomFold", fn := fun _ => fun
  | [d1, d2, d3] => { results := [.lit (.bool false)], args := [d1, d2, d3] }
  | _ => none }
def BloomFoldWrongFalsely : Prop := bloomFoldRow.holds Try.pinned (OpenSpec.ofChange bloomFoldWrong)

/-- 'slopchestlaw.CompareOptimal': WHATEVER THE INPUT: true; the input reads as it did. -/
def compareOptimalSpec : ChangeSpec := { name := "compareOptimal", fn := fun _ => fun
  | [d1, d2] => { results := [.lit (.bool true)], args := [d1, d2] }
  | _ => none }
def compareOptimalRow : OpenClaim := { program := "ytfncgfcehkalnaa", sum := "dd90cc452eadda05065805109157b6fee9f9070cf440aad930712604cf2c89b3", func := "slopchest/slopchestlaw.CompareOptimal", spec := "compareOptimal", inPlace := ["slices.overlaps[int]", "slices.overlaps[slopchest/api.Use]"], unfollowed := true, recurses := true, apart := false }
def CompareOptimalSaid : Prop := compareOptimalRow.holds Try.pinned (OpenSpec.ofChange compareOptimalSpec)

/-- ITS FALSE NEIGHBOUR: 'it returns false'. Refute it at one input. -/
def compareOptimalWrong : ChangeSpec := { name := "compareOptimal", fn := fun _ => fun
  | [d1, d2] => { results := [.lit (.bool false)], args := [d1, d2] }
  | _ => none }
def CompareOptimalWrongFalsely : Prop := compareOptimalRow.holds Try.pinned (OpenSpec.ofChange compareOptimalWrong)

/-- 'slopchestlaw.CompareMonotone': WHATEVER THE INPUT: true; the input reads as it did. -/
def compareMonotoneSpec : ChangeSpec := { name := "compareMonotone", fn := fun _ => fun
  | [d] => { results := [.lit (.bool true)], args := [d] }
  | _ => none }
def compareMonotoneRow : OpenClaim := { program := "ytfncgfcehkalnaa", sum := "dd90cc452eadda05065805109157b6fee9f9070cf440aad930712604cf2c89b3", func := "slopchest/slopchestlaw.CompareMonotone", spec := "compareMonotone", inPlace := ["slices.overlaps[int]", "slices.overlaps[slopchest/api.Use]"], unfollowed := true, recurses := true, apart := false }
def CompareMonotoneSaid : Prop := compareMonotoneRow.holds Try.pinned (OpenSpec.ofChange compareMonotoneSpec)

/-- ITS FALSE NEIGHBOUR: 'it returns false'. Refute it at one input. -/
def compareMonotoneWrong : ChangeSpec := { name := "compareMonotone", fn := fun _ => fun
  | [d] => { results := [.lit (.bool false)], args := [d] }
  | _ => none }
def CompareMonotoneWrongFalsely : Prop := compareMonotoneRow.holds Try.pinned (OpenSpec.ofChange compareMonotoneWrong)

/-- 'slopchesttop.TopFilter': WHATEVER THE INPUT: true; the input reads as it did. -/
def topFilterSpec : ChangeSpec := { name := "topFilter", fn := fun _ => fun
  | [d1, d2, d3, d4, d5] => { results := [.lit (.bool true)], args := [d1, d2, d3, d4, d5] }
  | _ => none }
def topFilterRow : OpenClaim := { program := "ytfncgfcehkalnaa", sum := "dd90cc452eadda05065805109157b6fee9f9070cf440aad930712604cf2c89b3", func := "slopchest/slopchesttop.TopFilter", spec := "topFilter", inPlace := ["slices.overlaps[int]"], unfollowed := true, recurses := true, apart := false }
def TopFilterSaid : Prop := topFilterRow.holds Try.pinned (OpenSpec.ofChange topFilterSpec)

/-- ITS FALSE NEIGHBOUR: 'it returns false'. Refute it at one input. -/
def topFilterWrong : ChangeSpec := { name := "topFilter", fn := fun _ => fun
  | [d1, d2, d3, d4, d5] => { results := [.lit (.bool false)], args := [d1, d2, d3, d4, d5] }
  | _ => none }
def TopFilterWrongFalsely : Prop := topFilterRow.holds Try.pinned (OpenSpec.ofChange topFilterWrong)

/- THE SECOND FORM. 'bulk': how many values and letters a reading holds, each counted each time it is reached (what is shared counts as often as it is met; a slice's spare places count too). A statement '..UptoSaid' is the law's where the arguments, and the package variables that the reading takes, are together of bulk at most 1048576: NARROWER than '..Said'. Prove '..Said' where nothing that the law and all that it calls make is longer than what came in: it says more and counts as full. Else prove '..UptoSaid'. A law counts once. -/
mutual
def uptoBulk {H : Type} : DataW H → Nat
  | .lit (.string bytes) => bytes.length + 1
  | .lit _ => 1
  | .nil => 1
  | .ptr d => uptoBulk d + 1
  | .slice elems spare => uptoBulkAll elems + uptoBulkAll spare + 1
  | .agg parts => uptoBulkAll parts + 1
  | .iface _ d => uptoBulk d + 1
  | .map entries => uptoBulkEntries entries + 1
  | .held _ => 1
def uptoBulkAll {H : Type} : List (DataW H) → Nat
  | [] => 0
  | d :: r => uptoBulk d + uptoBulkAll r
def uptoBulkEntries {H : Type} : List (Lit × DataW H) → Nat
  | [] => 0
  | x :: r => uptoBulkEntry x + uptoBulkEntries r
def uptoBulkEntry {H : Type} : Lit × DataW H → Nat
  | (.string bytes, d) => bytes.length + uptoBulk d + 1
  | (_, d) => uptoBulk d + 1
 end
def uptoSmall : (H : Type) → List (DataW H) → Bool := fun _ ds => decide (uptoBulkAll ds ≤ 1048576)
def OpenSpec.upto (s : _root_.Go.ChangeSpec) : _root_.Go.OpenSpec := { _root_.Go.OpenSpec.ofChange s with cond := some uptoSmall }

/-- 'slopchestlaw.BloomSpec', WHERE WHAT IT READS IS OF BULK AT MOST 1048576: true; the input reads as it did. -/
def bloomSpecUptoRow : OpenClaim := { program := "ytfncgfcehkalnaa", sum := "dd90cc452eadda05065805109157b6fee9f9070cf440aad930712604cf2c89b3", func := "slopchest/slopchestlaw.BloomSpec", spec := "bloomSpec", unfollowed := true, recurses := true, apart := false, narrowed := true }
def BloomSpecUptoSaid : Prop := bloomSpecUptoRow.holds Try.pinned (OpenSpec.upto bloomSpecSpec)

/-- 'slopchestlaw.BloomNoFalseNegative', WHERE WHAT IT READS IS OF BULK AT MOST 1048576: true; the input reads as it did. -/
def bloomNoFalseNegativeUptoRow : OpenClaim := { program := "ytfncgfcehkalnaa", sum := "dd90cc452eadda05065805109157b6fee9f9070cf440aad930712604cf2c89b3", func := "slopchest/slopchestlaw.BloomNoFalseNegative", spec := "bloomNoFalseNegative", unfollowed := true, recurses := true, apart := false, narrowed := true }
def BloomNoFalseNegativeUptoSaid : Prop := bloomNoFalseNegativeUptoRow.holds Try.pinned (OpenSpec.upto bloomNoFalseNegativeSpec)

/-- 'slopchestlaw.BloomUnion', WHERE WHAT IT READS IS OF BULK AT MOST 1048576: true; the input reads as it did. -/
def bloomUnionUptoRow : OpenClaim := { program := "ytfncgfcehkalnaa", sum := "dd90cc452eadda05065805109157b6fee9f9070cf440aad930712604cf2c89b3", func := "slopchest/slopchestlaw.BloomUnion", spec := "bloomUnion", unfollowed := true, recurses := true, apart := false, narrowed := true }
def BloomUnionUptoSaid : Prop := bloomUnionUptoRow.holds Try.pinned (OpenSpec.upto bloomUnionSpec)

/-- 'slopchestlaw.BloomFold', WHERE WHAT IT READS IS OF BULK AT MOST 1048576: true; the input reads as it did. -/
def bloomFoldUptoRow : OpenClaim := { program := "ytfncgfcehkalnaa", sum := "dd90cc452eadda05065805109157b6fee9f9070cf440aad930712604cf2c89b3", func := "slopchest/slopchestlaw.BloomFold", spec := "bloomFold", unfollowed := true, recurses := true, apart := false, narrowed := true }
def BloomFoldUptoSaid : Prop := bloomFoldUptoRow.holds Try.pinned (OpenSpec.upto bloomFoldSpec)

/-- 'slopchestlaw.CompareOptimal', WHERE WHAT IT READS IS OF BULK AT MOST 1048576: true; the input reads as it did. -/
def compareOptimalUptoRow : OpenClaim := { program := "ytfncgfcehkalnaa", sum := "dd90cc452eadda05065805109157b6fee9f9070cf440aad930712604cf2c89b3", func := "slopchest/slopchestlaw.CompareOptimal", spec := "compareOptimal", inPlace := ["slices.overlaps[int]", "slices.overlaps[slopchest/api.Use]"], unfollowed := true, recurses := true, apart := false, narrowed := true }
def CompareOptimalUptoSaid : Prop := compareOptimalUptoRow.holds Try.pinned (OpenSpec.upto compareOptimalSpec)

/-- 'slopchestlaw.CompareMonotone', WHERE WHAT IT READS IS OF BULK AT MOST 1048576: true; the input reads as it did. -/
def compareMonotoneUptoRow : OpenClaim := { program := "ytfncgfcehkalnaa", sum := "dd90cc452eadda05065805109157b6fee9f9070cf440aad930712604cf2c89b3", func := "slopchest/slopchestlaw.CompareMonotone", spec := "compareMonotone", inPlace := ["slices.overlaps[int]", "slices.overlaps[slopchest/api.Use]"], unfollowed := true, recurses := true, apart := false, narrowed := true }
def CompareMonotoneUptoSaid : Prop := compareMonotoneUptoRow.holds Try.pinned (OpenSpec.upto compareMonotoneSpec)

/-- 'slopchesttop.TopFilter', WHERE WHAT IT READS IS OF BULK AT MOST 1048576: true; the input reads as it did. -/
def topFilterUptoRow : OpenClaim := { program := "ytfncgfcehkalnaa", sum := "dd90cc452eadda05065805109157b6fee9f9070cf440aad930712604cf2c89b3", func := "slopchest/slopchesttop.TopFilter", spec := "topFilter", inPlace := ["slices.overlaps[int]"], unfollowed := true, recurses := true, apart := false, narrowed := true }
def TopFilterUptoSaid : Prop := topFilterUptoRow.holds Try.pinned (OpenSpec.upto topFilterSpec)

end Rows
end Go.Proofs.Ytfncgfcehkalnaa
