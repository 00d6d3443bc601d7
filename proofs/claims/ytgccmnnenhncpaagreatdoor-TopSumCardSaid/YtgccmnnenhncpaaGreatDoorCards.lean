/-
  DERIVED. GIVEN WITH THE SEED: THE CARDS: each row of YtgccmnnenhncpaaGreatDoorRows.lean that lists a variable, with what it lists TIED to the program's text (the seventh form; the later family's looks); each row that meets fmt, with fmt's text TOLD by the authors' own Lean function (tested against real Go, not proved from fmt's source: count such statements apart). THE CARD IS WHAT COUNTS. Prove the row's statement (the work); the ties are given (YtgccmnnenhncpaaGreatDoorTie.lean); close each card by the builder's one call (the guide's Derived/Test/ToyasCard.lean, 'card_holds'). Laid BY PROGRAM, IN A SANDBOX (cutbox-door.mjs). By AI agents, Wed Nov 11 2026. No macro, syntax, notation, axiom, sorry.
-/
import Derived.Test.YtgccmnnenhncpaaGreatDoorRows
import GoSem.ClaimSeven
namespace Go.Proofs.YtgccmnnenhncpaaGreatDoor
namespace Rows

/-- THE TIED CARD OF 'peloruslaw26.RunNames'. -/
def runNamesCard : Claim7 := { stood := { row := runNamesRow, standIns := [], harness := (true, "0afa946364490b4648e2b152f94f0c950f9af3c23026c12243595cf9fd231dd8"), looks := true }, kinds := [], alts := [], laidByText := true, laidKinds := [.data, .data, .pinned], laidTests := true, laidLooks := .later }
def RunNamesCardSaid : Prop := Claim7.holds Tryz.pinned (.plain (OpenSpec.ofChange runNamesSpec)) runNamesCard

/-- THE TIED CARD OF 'peloruslaw26.RunForms'. -/
def runFormsCard : Claim7 := { stood := { row := runFormsRow, standIns := [], harness := (true, "0afa946364490b4648e2b152f94f0c950f9af3c23026c12243595cf9fd231dd8"), looks := true }, kinds := [], alts := [], laidByText := true, laidKinds := [.data, .data, .pinned], laidTests := true, laidLooks := .later }
def RunFormsCardSaid : Prop := Claim7.holds Tryz.pinned (.plain (OpenSpec.ofChange runFormsSpec)) runFormsCard

/-- THE TIED CARD OF 'peloruslaw26.RunKeeps'. -/
def runKeepsCard : Claim7 := { stood := { row := runKeepsRow, standIns := [], harness := (true, "0afa946364490b4648e2b152f94f0c950f9af3c23026c12243595cf9fd231dd8"), looks := true }, kinds := [], alts := [], laidByText := true, laidKinds := [.data, .data, .pinned], laidTests := true, laidLooks := .later }
def RunKeepsCardSaid : Prop := Claim7.holds Tryz.pinned (.plain (OpenSpec.ofChange runKeepsSpec)) runKeepsCard

/-- THE TIED CARD OF 'pelorustop.TopSum'. -/
def topSumCard : Claim7 := { stood := { row := topSumRow, standIns := [], harness := (true, "0afa946364490b4648e2b152f94f0c950f9af3c23026c12243595cf9fd231dd8"), looks := true }, kinds := [], alts := [], laidByText := true, laidKinds := [.data, .data, .pinned], laidTests := true, laidLooks := .later }
def TopSumCardSaid : Prop := Claim7.holds Tryz.pinned (.plain (OpenSpec.ofChange topSumSpec)) topSumCard

/-- THE TIED CARD OF 'pelorustop.TopDepth'. -/
def topDepthCard : Claim7 := { stood := { row := topDepthRow, standIns := [], harness := (true, "0afa946364490b4648e2b152f94f0c950f9af3c23026c12243595cf9fd231dd8"), looks := true }, kinds := [], alts := [], laidByText := true, laidKinds := [.data, .data, .pinned], laidTests := true, laidLooks := .later }
def TopDepthCardSaid : Prop := Claim7.holds Tryz.pinned (.plain (OpenSpec.ofChange topDepthSpec)) topDepthCard

/-- THE SECOND FORM's CARD OF 'peloruslaw26.RunNames'. -/
def runNamesUptoCard : Claim7 := { stood := { row := runNamesUptoRow, standIns := [], harness := (true, "0afa946364490b4648e2b152f94f0c950f9af3c23026c12243595cf9fd231dd8"), looks := true }, kinds := [], alts := [], laidByText := true, laidKinds := [.data, .data, .pinned], laidTests := true, laidLooks := .later }
def RunNamesUptoCardSaid : Prop := Claim7.holds Tryz.pinned (.plain (OpenSpec.upto runNamesSpec)) runNamesUptoCard

/-- THE SECOND FORM's CARD OF 'peloruslaw26.RunForms'. -/
def runFormsUptoCard : Claim7 := { stood := { row := runFormsUptoRow, standIns := [], harness := (true, "0afa946364490b4648e2b152f94f0c950f9af3c23026c12243595cf9fd231dd8"), looks := true }, kinds := [], alts := [], laidByText := true, laidKinds := [.data, .data, .pinned], laidTests := true, laidLooks := .later }
def RunFormsUptoCardSaid : Prop := Claim7.holds Tryz.pinned (.plain (OpenSpec.upto runFormsSpec)) runFormsUptoCard

/-- THE SECOND FORM's CARD OF 'peloruslaw26.RunKeeps'. -/
def runKeepsUptoCard : Claim7 := { stood := { row := runKeepsUptoRow, standIns := [], harness := (true, "0afa946364490b4648e2b152f94f0c950f9af3c23026c12243595cf9fd231dd8"), looks := true }, kinds := [], alts := [], laidByText := true, laidKinds := [.data, .data, .pinned], laidTests := true, laidLooks := .later }
def RunKeepsUptoCardSaid : Prop := Claim7.holds Tryz.pinned (.plain (OpenSpec.upto runKeepsSpec)) runKeepsUptoCard

/-- THE SECOND FORM's CARD OF 'pelorustop.TopSum'. -/
def topSumUptoCard : Claim7 := { stood := { row := topSumUptoRow, standIns := [], harness := (true, "0afa946364490b4648e2b152f94f0c950f9af3c23026c12243595cf9fd231dd8"), looks := true }, kinds := [], alts := [], laidByText := true, laidKinds := [.data, .data, .pinned], laidTests := true, laidLooks := .later }
def TopSumUptoCardSaid : Prop := Claim7.holds Tryz.pinned (.plain (OpenSpec.upto topSumSpec)) topSumUptoCard

/-- THE SECOND FORM's CARD OF 'pelorustop.TopDepth'. -/
def topDepthUptoCard : Claim7 := { stood := { row := topDepthUptoRow, standIns := [], harness := (true, "0afa946364490b4648e2b152f94f0c950f9af3c23026c12243595cf9fd231dd8"), looks := true }, kinds := [], alts := [], laidByText := true, laidKinds := [.data, .data, .pinned], laidTests := true, laidLooks := .later }
def TopDepthUptoCardSaid : Prop := Claim7.holds Tryz.pinned (.plain (OpenSpec.upto topDepthSpec)) topDepthUptoCard
end Rows
end Go.Proofs.YtgccmnnenhncpaaGreatDoor
