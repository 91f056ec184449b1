/-
  DERIVED. GIVEN WITH THE SEED: THE CARDS: each row of YtgkihbbeimhmbaaDoorRows.lean that lists a variable, with what it lists TIED to the program's text (the seventh form; the later family's looks); each row that meets fmt, with fmt's text TOLD by the authors' own Lean function (tested against real Go, not proved from fmt's source: count such statements apart). THE CARD IS WHAT COUNTS. Prove the row's statement (the work); the ties are given (YtgkihbbeimhmbaaDoorTie.lean); close each card by the builder's one call (the guide's Derived/Test/ToyasCard.lean, 'card_holds'). Laid BY PROGRAM, IN A SANDBOX (cutbox-door.mjs). By AI agents, Wed Nov 11 2026. No macro, syntax, notation, axiom, sorry.
-/
import Derived.Test.YtgkihbbeimhmbaaDoorRows
import GoSem.ClaimSeven
namespace Go.Proofs.YtgkihbbeimhmbaaDoor
namespace Rows

/-- THE TIED CARD OF 'slopchestlaw.TraceSpec'. -/
def traceSpecCard : Claim7 := { stood := { row := traceSpecRow, standIns := [], harness := (true, "5946890d4e2318a30ced079b03a77b7dd33530d088b42297d2f791202dfd9ad3"), looks := true }, kinds := [], alts := [], laidByText := true, laidKinds := [.data, .data, .data, .data, .sentinel, .sentinel, .pinned], laidTests := true, laidLooks := .later }
def TraceSpecCardSaid : Prop := Claim7.holds Tryd.pinned (.plain (OpenSpec.ofChange traceSpecSpec)) traceSpecCard

/-- THE TIED CARD OF 'slopchestlaw.TraceRoundTrip'. -/
def traceRoundTripCard : Claim7 := { stood := { row := traceRoundTripRow, standIns := [], harness := (true, "5946890d4e2318a30ced079b03a77b7dd33530d088b42297d2f791202dfd9ad3"), looks := true }, kinds := [], alts := [], laidByText := true, laidKinds := [.data, .data, .data, .data, .sentinel, .sentinel, .pinned], laidTests := true, laidLooks := .later }
def TraceRoundTripCardSaid : Prop := Claim7.holds Tryd.pinned (.plain (OpenSpec.ofChange traceRoundTripSpec)) traceRoundTripCard

/-- THE TIED CARD OF 'slopchestlaw.TraceCompact'. -/
def traceCompactCard : Claim7 := { stood := { row := traceCompactRow, standIns := [], harness := (true, "5946890d4e2318a30ced079b03a77b7dd33530d088b42297d2f791202dfd9ad3"), looks := true }, kinds := [], alts := [], laidByText := true, laidKinds := [.data, .data, .data, .data, .sentinel, .sentinel, .pinned], laidTests := true, laidLooks := .later }
def TraceCompactCardSaid : Prop := Claim7.holds Tryd.pinned (.plain (OpenSpec.ofChange traceCompactSpec)) traceCompactCard

/-- THE TIED CARD OF 'slopchestlaw.TraceJoins'. -/
def traceJoinsCard : Claim7 := { stood := { row := traceJoinsRow, standIns := [], harness := (true, "5946890d4e2318a30ced079b03a77b7dd33530d088b42297d2f791202dfd9ad3"), looks := true }, kinds := [], alts := [], laidByText := true, laidKinds := [.data, .data, .data, .data, .sentinel, .sentinel, .pinned], laidTests := true, laidLooks := .later }
def TraceJoinsCardSaid : Prop := Claim7.holds Tryd.pinned (.plain (OpenSpec.ofChange traceJoinsSpec)) traceJoinsCard

/-- THE SECOND FORM's CARD OF 'slopchestlaw.TraceSpec'. -/
def traceSpecUptoCard : Claim7 := { stood := { row := traceSpecUptoRow, standIns := [], harness := (true, "5946890d4e2318a30ced079b03a77b7dd33530d088b42297d2f791202dfd9ad3"), looks := true }, kinds := [], alts := [], laidByText := true, laidKinds := [.data, .data, .data, .data, .sentinel, .sentinel, .pinned], laidTests := true, laidLooks := .later }
def TraceSpecUptoCardSaid : Prop := Claim7.holds Tryd.pinned (.plain (OpenSpec.upto traceSpecSpec)) traceSpecUptoCard

/-- THE SECOND FORM's CARD OF 'slopchestlaw.TraceRoundTrip'. -/
def traceRoundTripUptoCard : Claim7 := { stood := { row := traceRoundTripUptoRow, standIns := [], harness := (true, "5946890d4e2318a30ced079b03a77b7dd33530d088b42297d2f791202dfd9ad3"), looks := true }, kinds := [], alts := [], laidByText := true, laidKinds := [.data, .data, .data, .data, .sentinel, .sentinel, .pinned], laidTests := true, laidLooks := .later }
def TraceRoundTripUptoCardSaid : Prop := Claim7.holds Tryd.pinned (.plain (OpenSpec.upto traceRoundTripSpec)) traceRoundTripUptoCard

/-- THE SECOND FORM's CARD OF 'slopchestlaw.TraceCompact'. -/
def traceCompactUptoCard : Claim7 := { stood := { row := traceCompactUptoRow, standIns := [], harness := (true, "5946890d4e2318a30ced079b03a77b7dd33530d088b42297d2f791202dfd9ad3"), looks := true }, kinds := [], alts := [], laidByText := true, laidKinds := [.data, .data, .data, .data, .sentinel, .sentinel, .pinned], laidTests := true, laidLooks := .later }
def TraceCompactUptoCardSaid : Prop := Claim7.holds Tryd.pinned (.plain (OpenSpec.upto traceCompactSpec)) traceCompactUptoCard

/-- THE SECOND FORM's CARD OF 'slopchestlaw.TraceJoins'. -/
def traceJoinsUptoCard : Claim7 := { stood := { row := traceJoinsUptoRow, standIns := [], harness := (true, "5946890d4e2318a30ced079b03a77b7dd33530d088b42297d2f791202dfd9ad3"), looks := true }, kinds := [], alts := [], laidByText := true, laidKinds := [.data, .data, .data, .data, .sentinel, .sentinel, .pinned], laidTests := true, laidLooks := .later }
def TraceJoinsUptoCardSaid : Prop := Claim7.holds Tryd.pinned (.plain (OpenSpec.upto traceJoinsSpec)) traceJoinsUptoCard
end Rows
end Go.Proofs.YtgkihbbeimhmbaaDoor
