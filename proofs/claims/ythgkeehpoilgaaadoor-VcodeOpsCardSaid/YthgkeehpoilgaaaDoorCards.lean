/-
  DERIVED. GIVEN WITH THE SEED: THE CARDS: each row of YthgkeehpoilgaaaDoorRows.lean that lists a variable, with what it lists TIED to the program's text (the seventh form; the later family's looks); each row that meets fmt, with fmt's text TOLD by the authors' own Lean function (tested against real Go, not proved from fmt's source: count such statements apart). THE CARD IS WHAT COUNTS. Prove the row's statement (the work); the ties are given (YthgkeehpoilgaaaDoorTie.lean); close each card by the builder's one call (the guide's Derived/Test/ToyasCard.lean, 'card_holds'). Laid BY PROGRAM, IN A SANDBOX (cutbox-door.mjs). By AI agents, Wed Nov 11 2026. No macro, syntax, notation, axiom, sorry.
-/
import Derived.Test.YthgkeehpoilgaaaDoorRows
import GoSem.ClaimSeven
namespace Go.Proofs.YthgkeehpoilgaaaDoor
namespace Rows

/-- THE TIED CARD OF 'mandrellaw04.OpsNames'. -/
def opsNamesCard : Claim7 := { stood := { row := opsNamesRow, standIns := [], harness := (true, "c030051cba14f7625d226046d1e06ae83f8d52230674e57e3c680e4192bbecff"), looks := true }, kinds := [], alts := [], laidByText := true, laidKinds := [.handle], laidTests := true, laidLooks := .later }
def OpsNamesCardSaid : Prop := Claim7.holds Tryd.pinned (.plain (OpenSpec.ofChange opsNamesSpec)) opsNamesCard

/-- THE TIED CARD OF 'mandrellaw04.OpsForms'. -/
def opsFormsCard : Claim7 := { stood := { row := opsFormsRow, standIns := [], harness := (true, "c030051cba14f7625d226046d1e06ae83f8d52230674e57e3c680e4192bbecff"), looks := true }, kinds := [], alts := [], laidByText := true, laidKinds := [.handle], laidTests := true, laidLooks := .later }
def OpsFormsCardSaid : Prop := Claim7.holds Tryd.pinned (.plain (OpenSpec.ofChange opsFormsSpec)) opsFormsCard

/-- THE TIED CARD OF 'mandrellaw18.SpanHoles'. -/
def spanHolesCard : Claim7 := { stood := { row := spanHolesRow, standIns := [], harness := (true, "c030051cba14f7625d226046d1e06ae83f8d52230674e57e3c680e4192bbecff"), looks := true }, kinds := [], alts := [], laidByText := true, laidKinds := [.data], laidTests := true, laidLooks := .later }
def SpanHolesCardSaid : Prop := Claim7.holds Tryd.pinned (.plain (OpenSpec.ofChange spanHolesSpec)) spanHolesCard

/-- THE TIED CARD OF 'mandrellaw18.SpanNeeds'. -/
def spanNeedsCard : Claim7 := { stood := { row := spanNeedsRow, standIns := [], harness := (true, "c030051cba14f7625d226046d1e06ae83f8d52230674e57e3c680e4192bbecff"), looks := true }, kinds := [], alts := [], laidByText := true, laidKinds := [.data], laidTests := true, laidLooks := .later }
def SpanNeedsCardSaid : Prop := Claim7.holds Tryd.pinned (.plain (OpenSpec.ofChange spanNeedsSpec)) spanNeedsCard

/-- THE TIED CARD OF 'mandrellaw11.VcodeOps'. -/
def vcodeOpsCard : Claim7 := { stood := { row := vcodeOpsRow, standIns := [], harness := (true, "c030051cba14f7625d226046d1e06ae83f8d52230674e57e3c680e4192bbecff"), looks := true }, kinds := [], alts := [], laidByText := true, laidKinds := [.data, .data, .data], laidTests := true, laidLooks := .later }
def VcodeOpsCardSaid : Prop := Claim7.holds Tryd.pinned (.plain (OpenSpec.ofChange vcodeOpsSpec)) vcodeOpsCard

/-- THE TIED CARD OF 'mandrellaw18.SpanMeets'. -/
def spanMeetsCard : Claim7 := { stood := { row := spanMeetsRow, standIns := [], harness := (true, "c030051cba14f7625d226046d1e06ae83f8d52230674e57e3c680e4192bbecff"), looks := true }, kinds := [], alts := [], laidByText := true, laidKinds := [.data, .handle], laidTests := true, laidLooks := .later }
def SpanMeetsCardSaid : Prop := Claim7.holds Tryd.pinned (.plain (OpenSpec.ofChange spanMeetsSpec)) spanMeetsCard

/-- THE TIED CARD OF 'mandrellaw11.VcodeClones'. -/
def vcodeClonesCard : Claim7 := { stood := { row := vcodeClonesRow, standIns := [], harness := (true, "c030051cba14f7625d226046d1e06ae83f8d52230674e57e3c680e4192bbecff"), looks := true }, kinds := [], alts := [], laidByText := true, laidKinds := [.data, .data, .data], laidTests := true, laidLooks := .later }
def VcodeClonesCardSaid : Prop := Claim7.holds Tryd.pinned (.plain (OpenSpec.ofChange vcodeClonesSpec)) vcodeClonesCard

/-- THE SECOND FORM's CARD OF 'mandrellaw04.OpsNames'. -/
def opsNamesUptoCard : Claim7 := { stood := { row := opsNamesUptoRow, standIns := [], harness := (true, "c030051cba14f7625d226046d1e06ae83f8d52230674e57e3c680e4192bbecff"), looks := true }, kinds := [], alts := [], laidByText := true, laidKinds := [.handle], laidTests := true, laidLooks := .later }
def OpsNamesUptoCardSaid : Prop := Claim7.holds Tryd.pinned (.plain (OpenSpec.upto opsNamesSpec)) opsNamesUptoCard

/-- THE SECOND FORM's CARD OF 'mandrellaw04.OpsForms'. -/
def opsFormsUptoCard : Claim7 := { stood := { row := opsFormsUptoRow, standIns := [], harness := (true, "c030051cba14f7625d226046d1e06ae83f8d52230674e57e3c680e4192bbecff"), looks := true }, kinds := [], alts := [], laidByText := true, laidKinds := [.handle], laidTests := true, laidLooks := .later }
def OpsFormsUptoCardSaid : Prop := Claim7.holds Tryd.pinned (.plain (OpenSpec.upto opsFormsSpec)) opsFormsUptoCard

/-- THE SECOND FORM's CARD OF 'mandrellaw18.SpanHoles'. -/
def spanHolesUptoCard : Claim7 := { stood := { row := spanHolesUptoRow, standIns := [], harness := (true, "c030051cba14f7625d226046d1e06ae83f8d52230674e57e3c680e4192bbecff"), looks := true }, kinds := [], alts := [], laidByText := true, laidKinds := [.data], laidTests := true, laidLooks := .later }
def SpanHolesUptoCardSaid : Prop := Claim7.holds Tryd.pinned (.plain (OpenSpec.upto spanHolesSpec)) spanHolesUptoCard

/-- THE SECOND FORM's CARD OF 'mandrellaw18.SpanNeeds'. -/
def spanNeedsUptoCard : Claim7 := { stood := { row := spanNeedsUptoRow, standIns := [], harness := (true, "c030051cba14f7625d226046d1e06ae83f8d52230674e57e3c680e4192bbecff"), looks := true }, kinds := [], alts := [], laidByText := true, laidKinds := [.data], laidTests := true, laidLooks := .later }
def SpanNeedsUptoCardSaid : Prop := Claim7.holds Tryd.pinned (.plain (OpenSpec.upto spanNeedsSpec)) spanNeedsUptoCard

/-- THE SECOND FORM's CARD OF 'mandrellaw11.VcodeOps'. -/
def vcodeOpsUptoCard : Claim7 := { stood := { row := vcodeOpsUptoRow, standIns := [], harness := (true, "c030051cba14f7625d226046d1e06ae83f8d52230674e57e3c680e4192bbecff"), looks := true }, kinds := [], alts := [], laidByText := true, laidKinds := [.data, .data, .data], laidTests := true, laidLooks := .later }
def VcodeOpsUptoCardSaid : Prop := Claim7.holds Tryd.pinned (.plain (OpenSpec.upto vcodeOpsSpec)) vcodeOpsUptoCard

/-- THE SECOND FORM's CARD OF 'mandrellaw18.SpanMeets'. -/
def spanMeetsUptoCard : Claim7 := { stood := { row := spanMeetsUptoRow, standIns := [], harness := (true, "c030051cba14f7625d226046d1e06ae83f8d52230674e57e3c680e4192bbecff"), looks := true }, kinds := [], alts := [], laidByText := true, laidKinds := [.data, .handle], laidTests := true, laidLooks := .later }
def SpanMeetsUptoCardSaid : Prop := Claim7.holds Tryd.pinned (.plain (OpenSpec.upto spanMeetsSpec)) spanMeetsUptoCard

/-- THE SECOND FORM's CARD OF 'mandrellaw11.VcodeClones'. -/
def vcodeClonesUptoCard : Claim7 := { stood := { row := vcodeClonesUptoRow, standIns := [], harness := (true, "c030051cba14f7625d226046d1e06ae83f8d52230674e57e3c680e4192bbecff"), looks := true }, kinds := [], alts := [], laidByText := true, laidKinds := [.data, .data, .data], laidTests := true, laidLooks := .later }
def VcodeClonesUptoCardSaid : Prop := Claim7.holds Tryd.pinned (.plain (OpenSpec.upto vcodeClonesSpec)) vcodeClonesUptoCard
end Rows
end Go.Proofs.YthgkeehpoilgaaaDoor
