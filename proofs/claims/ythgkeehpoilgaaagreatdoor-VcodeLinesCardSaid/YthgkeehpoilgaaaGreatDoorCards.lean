/-
  DERIVED. GIVEN WITH THE SEED: THE CARDS: each row of YthgkeehpoilgaaaGreatDoorRows.lean that lists a variable, with what it lists TIED to the program's text (the seventh form; the later family's looks); each row that meets fmt, with fmt's text TOLD by the authors' own Lean function (tested against real Go, not proved from fmt's source: count such statements apart). THE CARD IS WHAT COUNTS. Prove the row's statement (the work); the ties are given (YthgkeehpoilgaaaGreatDoorTie.lean); close each card by the builder's one call (the guide's Derived/Test/ToyasCard.lean, 'card_holds'). Laid BY PROGRAM, IN A SANDBOX (cutbox-door.mjs). By AI agents, Wed Nov 11 2026. No macro, syntax, notation, axiom, sorry.
-/
import Derived.Test.YthgkeehpoilgaaaGreatDoorRows
import GoSem.ClaimSeven
namespace Go.Proofs.YthgkeehpoilgaaaGreatDoor
namespace Rows

/-- THE TIED CARD OF 'mandrellaw18.SpanSpans'. -/
def spanSpansCard : Claim7 := { stood := { row := spanSpansRow, standIns := [], harness := (true, "9016fd02bb90b8922b0f4fee7d50d8da253f4912bc27c7213812be38961b7c6a"), looks := true }, kinds := [], alts := [], laidByText := true, laidKinds := [.data, .handle], laidTests := true, laidLooks := .later }
def SpanSpansCardSaid : Prop := Claim7.holds Tryz.pinned (.plain (OpenSpec.ofChange spanSpansSpec)) spanSpansCard

/-- THE TIED CARD OF 'mandrellaw11.VcodeLines'. -/
def vcodeLinesCard : Claim7 := { stood := { row := vcodeLinesRow, standIns := [], harness := (true, "9016fd02bb90b8922b0f4fee7d50d8da253f4912bc27c7213812be38961b7c6a"), looks := true }, kinds := [], alts := [], laidByText := true, laidKinds := [.data, .data, .data, .handle], laidTests := true, laidLooks := .later }
def VcodeLinesCardSaid : Prop := Claim7.holds Tryz.pinned (.plain (OpenSpec.ofChange vcodeLinesSpec)) vcodeLinesCard

/-- THE TIED CARD OF 'mandrellaw11.VcodeFits'. -/
def vcodeFitsCard : Claim7 := { stood := { row := vcodeFitsRow, standIns := [], harness := (true, "9016fd02bb90b8922b0f4fee7d50d8da253f4912bc27c7213812be38961b7c6a"), looks := true }, kinds := [], alts := [], laidByText := true, laidKinds := [.data, .data, .data, .handle], laidTests := true, laidLooks := .later }
def VcodeFitsCardSaid : Prop := Claim7.holds Tryz.pinned (.plain (OpenSpec.ofChange vcodeFitsSpec)) vcodeFitsCard

/-- THE SECOND FORM's CARD OF 'mandrellaw18.SpanSpans'. -/
def spanSpansUptoCard : Claim7 := { stood := { row := spanSpansUptoRow, standIns := [], harness := (true, "9016fd02bb90b8922b0f4fee7d50d8da253f4912bc27c7213812be38961b7c6a"), looks := true }, kinds := [], alts := [], laidByText := true, laidKinds := [.data, .handle], laidTests := true, laidLooks := .later }
def SpanSpansUptoCardSaid : Prop := Claim7.holds Tryz.pinned (.plain (OpenSpec.upto spanSpansSpec)) spanSpansUptoCard

/-- THE SECOND FORM's CARD OF 'mandrellaw11.VcodeLines'. -/
def vcodeLinesUptoCard : Claim7 := { stood := { row := vcodeLinesUptoRow, standIns := [], harness := (true, "9016fd02bb90b8922b0f4fee7d50d8da253f4912bc27c7213812be38961b7c6a"), looks := true }, kinds := [], alts := [], laidByText := true, laidKinds := [.data, .data, .data, .handle], laidTests := true, laidLooks := .later }
def VcodeLinesUptoCardSaid : Prop := Claim7.holds Tryz.pinned (.plain (OpenSpec.upto vcodeLinesSpec)) vcodeLinesUptoCard

/-- THE SECOND FORM's CARD OF 'mandrellaw11.VcodeFits'. -/
def vcodeFitsUptoCard : Claim7 := { stood := { row := vcodeFitsUptoRow, standIns := [], harness := (true, "9016fd02bb90b8922b0f4fee7d50d8da253f4912bc27c7213812be38961b7c6a"), looks := true }, kinds := [], alts := [], laidByText := true, laidKinds := [.data, .data, .data, .handle], laidTests := true, laidLooks := .later }
def VcodeFitsUptoCardSaid : Prop := Claim7.holds Tryz.pinned (.plain (OpenSpec.upto vcodeFitsSpec)) vcodeFitsUptoCard
end Rows
end Go.Proofs.YthgkeehpoilgaaaGreatDoor
