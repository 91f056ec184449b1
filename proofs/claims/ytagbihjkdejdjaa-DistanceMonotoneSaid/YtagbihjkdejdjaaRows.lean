/-
  No cell of these rows narrows 'for every input' (looked for: loops, veiled, ifaces, maps, wideKeys, modest, calm, conditions, laid).
  DERIVED. THE GIVEN ROWS OF THIS SEAT. 12 by the template 'for every input the law returns true; each argument reads behind the call as it read before'; 0 by the template 'total and deterministic' (their statements: YtagbihjkdejdjaaTotals.lean).
  GIVEN WITH THE SEED: the statements are not yours to turn. If you find one false, say at which input.
  Laid BY PROGRAM, IN A SANDBOX (cutbox-rows.mjs): the forced cells as the released guide's own fill.sh prints them over the translation d52574e23adc7df1… (all of the seat's roots in one cut). By AI agents, Wed Nov 11 2026. No macro, syntax, notation, axiom, sorry.
-/
import Derived.Test.YtagbihjkdejdjaaChecked
import GoSem.Claim
import GoSem.ClaimJoined
import GoSem.ClaimMapViews
import Derived.JoinedTies
import Derived.KernelRfl
namespace Go.Proofs.Ytagbihjkdejdjaa
/- THE CELL 'sum', in the pinned program and in every row, IS THE sha256 OF THE DUMP (.gsa) THAT YtagbihjkdejdjaaProg.lean LOADS. Nothing in Lean hashes anything: it is a label: what it is worth is what the hold of that sum in a sandbox is worth. -/
noncomputable def Try.pinned : Pinned := { name := "ytagbihjkdejdjaa", sum := "d52574e23adc7df178d17b26955d696dc11405d55f941714530b89014589146e", checked := Try.checked }
namespace Rows
def none {H : Type} : Left H := { results := [], args := [] }

/-- 'slopchestlaw.LfuSpec': WHATEVER THE INPUT: true; the input reads as it did. -/
def lfuSpecSpec : ChangeSpec := { name := "lfuSpec", fn := fun _ => fun
  | [d1, d2, d3] => { results := [.lit (.bool true)], args := [d1, d2, d3] }
  | _ => none }
def lfuSpecRow : OpenClaim := { program := "ytagbihjkdejdjaa", sum := "d52574e23adc7df178d17b26955d696dc11405d55f941714530b89014589146e", func := "slopchest/slopchestlaw.LfuSpec", spec := "lfuSpec", inPlace := ["slices.overlaps[slopchest/api.Use]"], unfollowed := true, recurses := true, apart := false }
def LfuSpecSaid : Prop := lfuSpecRow.holds Try.pinned (OpenSpec.ofChange lfuSpecSpec)

/-- ITS FALSE NEIGHBOUR: 'it returns false'. Refute it at one input. -/
def lfuSpecWrong : ChangeSpec := { name := "lfuSpec", fn := fun _ => fun
  | [d1, d2, d3] => { results := [.lit (.bool false)], args := [d1, d2, d3] }
  | _ => none }
def LfuSpecWrongFalsely : Prop := lfuSpecRow.holds Try.pinned (OpenSpec.ofChange lfuSpecWrong)

/-- 'slopchestlaw.LfuVictim': WHATEVER THE INPUT: true; the input reads as it did. -/
def lfuVictimSpec : ChangeSpec := { name := "lfuVictim", fn := fun _ => fun
  | [d1, d2] => { results := [.lit (.bool true)], args := [d1, d2] }
  | _ => none }
def lfuVictimRow : OpenClaim := { program := "ytagbihjkdejdjaa", sum := "d52574e23adc7df178d17b26955d696dc11405d55f941714530b89014589146e", func := "slopchest/slopchestlaw.LfuVictim", spec := "lfuVictim", inPlace := ["slices.overlaps[slopchest/api.Use]"], unfollowed := true, recurses := true, apart := false }
def LfuVictimSaid : Prop := lfuVictimRow.holds Try.pinned (OpenSpec.ofChange lfuVictimSpec)

/-- ITS FALSE NEIGHBOUR: 'it returns false'. Refute it at one input. -/
def lfuVictimWrong : ChangeSpec := { name := "lfuVictim", fn := fun _ => fun
  | [d1, d2] => { results := [.lit (.bool false)], args := [d1, d2] }
  | _ => none }
def LfuVictimWrongFalsely : Prop := lfuVictimRow.holds Try.pinned (OpenSpec.ofChange lfuVictimWrong)

/-- 'slopchestlaw.LfuCounts': WHATEVER THE INPUT: true; the input reads as it did. -/
def lfuCountsSpec : ChangeSpec := { name := "lfuCounts", fn := fun _ => fun
  | [d1, d2] => { results := [.lit (.bool true)], args := [d1, d2] }
  | _ => none }
def lfuCountsRow : OpenClaim := { program := "ytagbihjkdejdjaa", sum := "d52574e23adc7df178d17b26955d696dc11405d55f941714530b89014589146e", func := "slopchest/slopchestlaw.LfuCounts", spec := "lfuCounts", inPlace := ["slices.overlaps[slopchest/api.Use]"], unfollowed := true, recurses := true, apart := false }
def LfuCountsSaid : Prop := lfuCountsRow.holds Try.pinned (OpenSpec.ofChange lfuCountsSpec)

/-- ITS FALSE NEIGHBOUR: 'it returns false'. Refute it at one input. -/
def lfuCountsWrong : ChangeSpec := { name := "lfuCounts", fn := fun _ => fun
  | [d1, d2] => { results := [.lit (.bool false)], args := [d1, d2] }
  | _ => none }
def LfuCountsWrongFalsely : Prop := lfuCountsRow.holds Try.pinned (OpenSpec.ofChange lfuCountsWrong)

/-- 'slopchestlaw.LfuParts': WHATEVER THE INPUT: true; the input reads as it did. -/
def lfuPartsSpec : ChangeSpec := { name := "lfuParts", fn := fun _ => fun
  | [d1, d2, d3] => { results := [.lit (.bool true)], args := [d1, d2, d3] }
  | _ => none }
def lfuPartsRow : OpenClaim := { program := "ytagbihjkdejdjaa", sum := "d52574e23adc7df178d17b26955d696dc11405d55f941714530b89014589146e", func := "slopchest/slopchestlaw.LfuParts", spec := "lfuParts", inPlace := ["slices.overlaps[slopchest/api.Use]"], unfollowed := true, recurses := true, apart := false }
def LfuPartsSaid : Prop := lfuPartsRow.holds Try.pinned (OpenSpec.ofChange lfuPartsSpec)

/-- ITS FALSE NEIGHBOUR: 'it returns false'. Refute it at one input. -/
def lfuPartsWrong : ChangeSpec := { name := "lfuParts", fn := fun _ => fun
  | [d1, d2, d3] => { results := [.lit (.bool false)], args := [d1, d2, d3] }
  | _ => none }
def LfuPartsWrongFalsely : Prop := lfuPartsRow.holds Try.pinned (OpenSpec.ofChange lfuPartsWrong)

/-- 'slopchestlaw.DistanceRepeat': WHATEVER THE INPUT: true; the input reads as it did. -/
def distanceRepeatSpec : ChangeSpec := { name := "distanceRepeat", fn := fun _ => fun
  | [d] => { results := [.lit (.bool true)], args := [d] }
  | _ => none }
def distanceRepeatRow : OpenClaim := { program := "ytagbihjkdejdjaa", sum := "d52574e23adc7df178d17b26955d696dc11405d55f941714530b89014589146e", func := "slopchest/slopchestlaw.DistanceRepeat", spec := "distanceRepeat", inPlace := ["slices.overlaps[int]"], unfollowed := true, recurses := true, apart := false }
def DistanceRepeatSaid : Prop := distanceRepeatRow.holds Try.pinned (OpenSpec.ofChange distanceRepeatSpec)

/-- ITS FALSE NEIGHBOUR: 'it returns false'. Refute it at one input. -/
def distanceRepeatWrong : ChangeSpec := { name := "distanceRepeat", fn := fun _ => fun
  | [d] => { results := [.lit (.bool false)], args := [d] }
  | _ => none }
def DistanceRepeatWrongFalsely : Prop := distanceRepeatRow.holds Try.pinned (OpenSpec.ofChange distanceRepeatWrong)

/-- 'slopchestlaw.DistanceSpec': WHATEVER THE INPUT: true; the input reads as it did. -/
def distanceSpecSpec : ChangeSpec := { name := "distanceSpec", fn := fun _ => fun
  | [d1, d2] => { results := [.lit (.bool true)], args := [d1, d2] }
  | _ => none }
def distanceSpecRow : OpenClaim := { program := "ytagbihjkdejdjaa", sum := "d52574e23adc7df178d17b26955d696dc11405d55f941714530b89014589146e", func := "slopchest/slopchestlaw.DistanceSpec", spec := "distanceSpec", inPlace := ["slices.overlaps[int]"], unfollowed := true, recurses := true, apart := false }
def DistanceSpecSaid : Prop := distanceSpecRow.holds Try.pinned (OpenSpec.ofChange distanceSpecSpec)

/-- ITS FALSE NEIGHBOUR: 'it returns false'. Refute it at one input. -/
def distanceSpecWrong : ChangeSpec := { name := "distanceSpec", fn := fun _ => fun
  | [d1, d2] => { results := [.lit (.bool false)], args := [d1, d2] }
  | _ => none }
def DistanceSpecWrongFalsely : Prop := distanceSpecRow.holds Try.pinned (OpenSpec.ofChange distanceSpecWrong)

/-- 'slopchestlaw.DistanceMonotone': WHATEVER THE INPUT: true; the input reads as it did. -/
def distanceMonotoneSpec : ChangeSpec := { name := "distanceMonotone", fn := fun _ => fun
  | [d1, d2, d3] => { results := [.lit (.bool true)], args := [d1, d2, d3] }
  | _ => none }
def distanceMonotoneRow : OpenClaim := { program := "ytagbihjkdejdjaa", sum := "d52574e23adc7df178d17b26955d696dc11405d55f941714530b89014589146e", func := "slopchest/slopchestlaw.DistanceMonotone", spec := "distanceMonotone", inPlace := ["slices.overlaps[int]"], unfollowed := true, recurses := true, apart := false }
def DistanceMonotoneSaid : Prop := distanceMonotoneRow.holds Try.pinned (OpenSpec.ofChange distanceMonotoneSpec)

/-- ITS FALSE NEIGHBOUR: 'it returns false'. Refute it at one input. -/
def distanceMonotoneWrong : ChangeSpec := { name := "distanceMonotone", fn := fun _ => fun
  | [d1, d2, d3] => { results := [.lit (.bool false)], args := [d1, d2, d3] }
  | _ => none }
def DistanceMonotoneWrongFalsely : Prop := distanceMonotoneRow.holds Try.pinned (OpenSpec.ofChange distanceMonotoneWrong)

/-- 'slopchestlaw.DistanceHits': WHATEVER THE INPUT: true; the input reads as it did. -/
def distanceHitsSpec : ChangeSpec := { name := "distanceHits", fn := fun _ => fun
  | [d1, d2] => { results := [.lit (.bool true)], args := [d1, d2] }
  | _ => none }
def distanceHitsRow : OpenClaim := { program := "ytagbihjkdejdjaa", sum := "d52574e23adc7df178d17b26955d696dc11405d55f941714530b89014589146e", func := "slopchest/slopchestlaw.DistanceHits", spec := "distanceHits", inPlace := ["slices.overlaps[int]"], unfollowed := true, recurses := true, apart := false }
def DistanceHitsSaid : Prop := distanceHitsRow.holds Try.pinned (OpenSpec.ofChange distanceHitsSpec)

/-- ITS FALSE NEIGHBOUR: 'it returns false'. Refute it at one input. -/
def distanceHitsWrong : ChangeSpec := { name := "distanceHits", fn := fun _ => fun
  | [d1, d2] => { results := [.lit (.bool false)], args := [d1, d2] }
  | _ => none }
def DistanceHitsWrongFalsely : Prop := distanceHitsRow.holds Try.pinned (OpenSpec.ofChange distanceHitsWrong)

/-- 'slopchestlaw.ExpireSpec': WHATEVER THE INPUT: true; the input reads as it did. -/
def expireSpecSpec : ChangeSpec := { name := "expireSpec", fn := fun _ => fun
  | [d1, d2, d3, d4] => { results := [.lit (.bool true)], args := [d1, d2, d3, d4] }
  | _ => none }
def expireSpecRow : OpenClaim := { program := "ytagbihjkdejdjaa", sum := "d52574e23adc7df178d17b26955d696dc11405d55f941714530b89014589146e", func := "slopchest/slopchestlaw.ExpireSpec", spec := "expireSpec", inPlace := ["slices.overlaps[slopchest/api.Entry]"], unfollowed := true, recurses := true, apart := false }
def ExpireSpecSaid : Prop := expireSpecRow.holds Try.pinned (OpenSpec.ofChange expireSpecSpec)

/-- ITS FALSE NEIGHBOUR: 'it returns false'. Refute it at one input. -/
def expireSpecWrong : ChangeSpec := { name := "expireSpec", fn := fun _ => fun
  | [d1, d2, d3, d4] => { results := [.lit (.bool false)], args := [d1, d2, d3, d4] }
  | _ => none }
def ExpireSpecWrongFalsely : Prop := expireSpecRow.holds Try.pinned (OpenSpec.ofChange expireSpecWrong)

/-- 'slopchestlaw.ExpireLifetime': WHATEVER THE INPUT: true; the input reads as it did. -/
def expireLifetimeSpec : ChangeSpec := { name := "expireLifetime", fn := fun _ => fun
  | [d1, d2, d3, d4, d5] => { results := [.lit (.bool true)], args := [d1, d2, d3, d4, d5] }
  | _ => none }
def expireLifetimeRow : OpenClaim := { program := "ytagbihjkdejdjaa", sum := "d52574e23adc7df178d17b26955d696dc11405d55f941714530b89014589146e", func := "slopchest/slopchestlaw.ExpireLifetime", spec := "expireLifetime", inPlace := ["slices.overlaps[slopchest/api.Entry]"], unfollowed := true, recurses := true, apart := false }
def ExpireLifetimeSaid : Prop := expireLifetimeRow.holds Try.pinned (OpenSpec.ofChange expireLifetimeSpec)

/-- ITS FALSE NEIGHBOUR: 'it returns false'. Refute it at one input. -/
def expireLifetimeWrong : ChangeSpec := { name := "expireLifetime", fn := fun _ => fun
  | [d1, d2, d3, d4, d5] => { results := [.lit (.bool false)], args := [d1, d2, d3, d4, d5] }
  | _ => none }
def ExpireLifetimeWrongFalsely : Prop := expireLifetimeRow.holds Try.pinned (OpenSpec.ofChange expireLifetimeWrong)

/-- 'slopchestlaw.ExpireSweeps': WHATEVER THE INPUT: true; the input reads as it did. -/
def expireSweepsSpec : ChangeSpec := { name := "expireSweeps", fn := fun _ => fun
  | [d1, d2, d3, d4] => { results := [.lit (.bool true)], args := [d1, d2, d3, d4] }
  | _ => none }
def expireSweepsRow : OpenClaim := { program := "ytagbihjkdejdjaa", sum := "d52574e23adc7df178d17b26955d696dc11405d55f941714530b89014589146e", func := "slopchest/slopchestlaw.ExpireSweeps", spec := "expireSweeps", inPlace := ["slices.overlaps[slopchest/api.Entry]"], unfollowed := true, recurses := true, apart := false }
def ExpireSweepsSaid : Prop := expireSweepsRow.holds Try.pinned (OpenSpec.ofChange expireSweepsSpec)

/-- ITS FALSE NEIGHBOUR: 'it returns false'. Refute it at one input. -/
def expireSweepsWrong : ChangeSpec := { name := "expireSweeps", fn := fun _ => fun
  | [d1, d2, d3, d4] => { results := [.lit (.bool false)], args := [d1, d2, d3, d4] }
  | _ => none }
def ExpireSweepsWrongFalsely : Prop := expireSweepsRow.holds Try.pinned (OpenSpec.ofChange expireSweepsWrong)

/-- 'slopchestlaw.ExpireOthers': WHATEVER THE INPUT: true; the input reads as it did. -/
def expireOthersSpec : ChangeSpec := { name := "expireOthers", fn := fun _ => fun
  | [d1, d2, d3, d4, d5, d6] => { results := [.lit (.bool true)], args := [d1, d2, d3, d4, d5, d6] }
  | _ => none }
def expireOthersRow : OpenClaim := { program := "ytagbihjkdejdjaa", sum := "d52574e23adc7df178d17b26955d696dc11405d55f941714530b89014589146e", func := "slopchest/slopchestlaw.ExpireOthers", spec := "expireOthers", inPlace := ["slices.overlaps[slopchest/api.Entry]"], unfollowed := true, recurses := true, apart := false }
def ExpireOthersSaid : Prop := expireOthersRow.holds Try.pinned (OpenSpec.ofChange expireOthersSpec)

/-- ITS FALSE NEIGHBOUR: 'it returns false'. Refute it at one input. -/
def expireOthersWrong : ChangeSpec := { name := "expireOthers", fn := fun _ => fun
  | [d1, d2, d3, d4, d5, d6] => { results := [.lit (.bool false)], args := [d1, d2, d3, d4, d5, d6] }
  | _ => none }
def ExpireOthersWrongFalsely : Prop := expireOthersRow.holds Try.pinned (OpenSpec.ofChange expireOthersWrong)

/- THE SECOND FORM. 'bulk': how many values and letters a reading holds, each counted each time it is reached (what is shared counts as often as it is met; a slice's spare places count too). A statement '..UptoSaid' is the law's where the arguments, and the package variables that the reading takes, are together of bulk at most 1048576: NARROWER than '..Said'. Prove '..Said' where nothing that the law and all that it calls make is longer than what came in: it says more and counts as full. Else prove '..UptoSaid'. A law counts once. -/
mutual
def uptoBulk {H : Type} : DataW H → Nat
  | .lit (.string bytes) => bytes.length + 1
  | .lit _ => 1
  | .nil => 1
  | .ptr d => uptoBulk d + 1
  | .slice elems spare => uptoBulkAll elems + uptoBulkAll spare + 1
  | .agg parts => uptoBulkAll parts + 1
  | .iface _ d => uptoBulk d + 1
  | .map entries => uptoBulkEntries entries + 1
  | .held _ => 1
def uptoBulkAll {H : Type} : List (DataW H) → Nat
  | [] => 0
  | d :: r => uptoBulk d + uptoBulkAll r
def uptoBulkEntries {H : Type} : List (Lit × DataW H) → Nat
  | [] => 0
  | x :: r => uptoBulkEntry x + uptoBulkEntries r
def uptoBulkEntry {H : Type} : Lit × DataW H → Nat
  | (.string bytes, d) => bytes.length + uptoBulk d + 1
  | (_, d) => uptoBulk d + 1
 end
def uptoSmall : (H : Type) → List (DataW H) → Bool := fun _ ds => decide (uptoBulkAll ds ≤ 1048576)
def OpenSpec.upto (s : _root_.Go.ChangeSpec) : _root_.Go.OpenSpec := { _root_.Go.OpenSpec.ofChange s with cond := some uptoSmall }

/-- 'slopchestlaw.LfuSpec', WHERE WHAT IT READS IS OF BULK AT MOST 1048576: true; the input reads as it did. -/
def lfuSpecUptoRow : OpenClaim := { program := "ytagbihjkdejdjaa", sum := "d52574e23adc7df178d17b26955d696dc11405d55f941714530b89014589146e", func := "slopchest/slopchestlaw.LfuSpec", spec := "lfuSpec", inPlace := ["slices.overlaps[slopchest/api.Use]"], unfollowed := true, recurses := true, apart := false, narrowed := true }
def LfuSpecUptoSaid : Prop := lfuSpecUptoRow.holds Try.pinned (OpenSpec.upto lfuSpecSpec)

/-- 'slopchestlaw.LfuVictim', WHERE WHAT IT READS IS OF BULK AT MOST 1048576: true; the input reads as it did. -/
def lfuVictimUptoRow : OpenClaim := { program := "ytagbihjkdejdjaa", sum := "d52574e23adc7df178d17b26955d696dc11405d55f941714530b89014589146e", func := "slopchest/slopchestlaw.LfuVictim", spec := "lfuVictim", inPlace := ["slices.overlaps[slopchest/api.Use]"], unfollowed := true, recurses := true, apart := false, narrowed := true }
def LfuVictimUptoSaid : Prop := lfuVictimUptoRow.holds Try.pinned (OpenSpec.upto lfuVictimSpec)

/-- 'slopchestlaw.LfuCounts', WHERE WHAT IT READS IS OF BULK AT MOST 1048576: true; the input reads as it did. -/
def lfuCountsUptoRow : OpenClaim := { program := "ytagbihjkdejdjaa", sum := "d52574e23adc7df178d17b26955d696dc11405d55f941714530b89014589146e", func := "slopchest/slopchestlaw.LfuCounts", spec := "lfuCounts", inPlace := ["slices.overlaps[slopchest/api.Use]"], unfollowed := true, recurses := true, apart := false, narrowed := true }
def LfuCountsUptoSaid : Prop := lfuCountsUptoRow.holds Try.pinned (OpenSpec.upto lfuCountsSpec)

/-- 'slopchestlaw.LfuParts', WHERE WHAT IT READS IS OF BULK AT MOST 1048576: true; the input reads as it did. -/
def lfuPartsUptoRow : OpenClaim := { program := "ytagbihjkdejdjaa", sum := "d52574e23adc7df178d17b26955d696dc11405d55f941714530b89014589146e", func := "slopchest/slopchestlaw.LfuParts", spec := "lfuParts", inPlace := ["slices.overlaps[slopchest/api.Use]"], unfollowed := true, recurses := true, apart := false, narrowed := true }
def LfuPartsUptoSaid : Prop := lfuPartsUptoRow.holds Try.pinned (OpenSpec.upto lfuPartsSpec)

/-- 'slopchestlaw.DistanceRepeat', WHERE WHAT IT READS IS OF BULK AT MOST 1048576: true; the input reads as it did. -/
def distanceRepeatUptoRow : OpenClaim := { program := "ytagbihjkdejdjaa", sum := "d52574e23adc7df178d17b26955d696dc11405d55f941714530b89014589146e", func := "slopchest/slopchestlaw.DistanceRepeat", spec := "distanceRepeat", inPlace := ["slices.overlaps[int]"], unfollowed := true, recurses := true, apart := false, narrowed := true }
def DistanceRepeatUptoSaid : Prop := distanceRepeatUptoRow.holds Try.pinned (OpenSpec.upto distanceRepeatSpec)

/-- 'slopchestlaw.DistanceSpec', WHERE WHAT IT READS IS OF BULK AT MOST 1048576: true; the input reads as it did. -/
def distanceSpecUptoRow : OpenClaim := { program := "ytagbihjkdejdjaa", sum := "d52574e23adc7df178d17b26955d696dc11405d55f941714530b89014589146e", func := "slopchest/slopchestlaw.DistanceSpec", spec := "distanceSpec", inPlace := ["slices.overlaps[int]"], unfollowed := true, recurses := true, apart := false, narrowed := true }
def DistanceSpecUptoSaid : Prop := distanceSpecUptoRow.holds Try.pinned (OpenSpec.upto distanceSpecSpec)

/-- 'slopchestlaw.DistanceMonotone', WHERE WHAT IT READS IS OF BULK AT MOST 1048576: true; the input reads as it did. -/
def distanceMonotoneUptoRow : OpenClaim := { program := "ytagbihjkdejdjaa", sum := "d52574e23adc7df178d17b26955d696dc11405d55f941714530b89014589146e", func := "slopchest/slopchestlaw.DistanceMonotone", spec := "distanceMonotone", inPlace := ["slices.overlaps[int]"], unfollowed := true, recurses := true, apart := false, narrowed := true }
def DistanceMonotoneUptoSaid : Prop := distanceMonotoneUptoRow.holds Try.pinned (OpenSpec.upto distanceMonotoneSpec)

/-- 'slopchestlaw.DistanceHits', WHERE WHAT IT READS IS OF BULK AT MOST 1048576: true; the input reads as it did. -/
def distanceHitsUptoRow : OpenClaim := { program := "ytagbihjkdejdjaa", sum := "d52574e23adc7df178d17b26955d696dc11405d55f941714530b89014589146e", func := "slopchest/slopchestlaw.DistanceHits", spec := "distanceHits", inPlace := ["slices.overlaps[int]"], unfollowed := true, recurses := true, apart := false, narrowed := true }
def DistanceHitsUptoSaid : Prop := distanceHitsUptoRow.holds Try.pinned (OpenSpec.upto distanceHitsSpec)

/-- 'slopchestlaw.ExpireSpec', WHERE WHAT IT READS IS OF BULK AT MOST 1048576: true; the input reads as it did. -/
def expireSpecUptoRow : OpenClaim := { program := "ytagbihjkdejdjaa", sum := "d52574e23adc7df178d17b26955d696dc11405d55f941714530b89014589146e", func := "slopchest/slopchestlaw.ExpireSpec", spec := "expireSpec", inPlace := ["slices.overlaps[slopchest/api.Entry]"], unfollowed := true, recurses := true, apart := false, narrowed := true }
def ExpireSpecUptoSaid : Prop := expireSpecUptoRow.holds Try.pinned (OpenSpec.upto expireSpecSpec)

/-- 'slopchestlaw.ExpireLifetime', WHERE WHAT IT READS IS OF BULK AT MOST 1048576: true; the input reads as it did. -/
def expireLifetimeUptoRow : OpenClaim := { program := "ytagbihjkdejdjaa", sum := "d52574e23adc7df178d17b26955d696dc11405d55f941714530b89014589146e", func := "slopchest/slopchestlaw.ExpireLifetime", spec := "expireLifetime", inPlace := ["slices.overlaps[slopchest/api.Entry]"], unfollowed := true, recurses := true, apart := false, narrowed := true }
def ExpireLifetimeUptoSaid : Prop := expireLifetimeUptoRow.holds Try.pinned (OpenSpec.upto expireLifetimeSpec)

/-- 'slopchestlaw.ExpireSweeps', WHERE WHAT IT READS IS OF BULK AT MOST 1048576: true; the input reads as it did. -/
def expireSweepsUptoRow : OpenClaim := { program := "ytagbihjkdejdjaa", sum := "d52574e23adc7df178d17b26955d696dc11405d55f941714530b89014589146e", func := "slopchest/slopchestlaw.ExpireSweeps", spec := "expireSweeps", inPlace := ["slices.overlaps[slopchest/api.Entry]"], unfollowed := true, recurses := true, apart := false, narrowed := true }
def ExpireSweepsUptoSaid : Prop := expireSweepsUptoRow.holds Try.pinned (OpenSpec.upto expireSweepsSpec)

/-- 'slopchestlaw.ExpireOthers', WHERE WHAT IT READS IS OF BULK AT MOST 1048576: true; the input reads as it did. -/
def expireOthersUptoRow : OpenClaim := { program := "ytagbihjkdejdjaa", sum := "d52574e23adc7df178d17b26955d696dc11405d55f941714530b89014589146e", func := "slopchest/slopchestlaw.ExpireOthers", spec := "expireOthers", inPlace := ["slices.overlaps[slopchest/api.Entry]"], unfollowed := true, recurses := true, apart := false, narrowed := true }
def ExpireOthersUptoSaid : Prop := expireOthersUptoRow.holds Try.pinned (OpenSpec.upto expireOthersSpec)

end Rows
end Go.Proofs.Ytagbihjkdejdjaa
