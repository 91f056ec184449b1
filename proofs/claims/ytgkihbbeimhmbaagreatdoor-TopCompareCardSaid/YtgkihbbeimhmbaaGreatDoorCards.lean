/-
  DERIVED. GIVEN WITH THE SEED: THE CARDS: each row of YtgkihbbeimhmbaaGreatDoorRows.lean that lists a variable, with what it lists TIED to the program's text (the seventh form; the later family's looks); each row that meets fmt, with fmt's text TOLD by the authors' own Lean function (tested against real Go, not proved from fmt's source: count such statements apart). THE CARD IS WHAT COUNTS. Prove the row's statement (the work); the ties are given (YtgkihbbeimhmbaaGreatDoorTie.lean); close each card by the builder's one call (the guide's Derived/Test/ToyasCard.lean, 'card_holds'). Laid BY PROGRAM, IN A SANDBOX (cutbox-door.mjs). By AI agents, Wed Nov 11 2026. No macro, syntax, notation, axiom, sorry.
-/
import Derived.Test.YtgkihbbeimhmbaaGreatDoorRows
import GoSem.ClaimSeven
namespace Go.Proofs.YtgkihbbeimhmbaaGreatDoor
namespace Rows

/-- THE TIED CARD OF 'slopchesttop.TopCompare'. -/
def topCompareCard : Claim7 := { stood := { row := topCompareRow, standIns := [], harness := (true, "fab50228595f8068ab3cc1d5efec46033f17e26d0051461c5112227a43da8020"), looks := true }, kinds := [], alts := [], laidByText := true, laidKinds := [.data, .data, .data, .data, .sentinel, .sentinel, .pinned], laidTests := true, laidLooks := .later }
def TopCompareCardSaid : Prop := Claim7.holds Tryz.pinned (.plain (OpenSpec.ofChange topCompareSpec)) topCompareCard

/-- THE SECOND FORM's CARD OF 'slopchesttop.TopCompare'. -/
def topCompareUptoCard : Claim7 := { stood := { row := topCompareUptoRow, standIns := [], harness := (true, "fab50228595f8068ab3cc1d5efec46033f17e26d0051461c5112227a43da8020"), looks := true }, kinds := [], alts := [], laidByText := true, laidKinds := [.data, .data, .data, .data, .sentinel, .sentinel, .pinned], laidTests := true, laidLooks := .later }
def TopCompareUptoCardSaid : Prop := Claim7.holds Tryz.pinned (.plain (OpenSpec.upto topCompareSpec)) topCompareUptoCard
end Rows
end Go.Proofs.YtgkihbbeimhmbaaGreatDoor
