/-
  DERIVED. GIVEN WITH THE SEED: THE CARDS: each row of YteapooonilhaiaaGreatDoorRows.lean that lists a variable, with what it lists TIED to the program's text (the seventh form; the later family's looks); each row that meets fmt, with fmt's text TOLD by the authors' own Lean function (tested against real Go, not proved from fmt's source: count such statements apart). THE CARD IS WHAT COUNTS. Prove the row's statement (the work); the ties are given (YteapooonilhaiaaGreatDoorTie.lean); close each card by the builder's one call (the guide's Derived/Test/ToyasCard.lean, 'card_holds'). Laid BY PROGRAM, IN A SANDBOX (cutbox-door.mjs). By AI agents, Wed Nov 11 2026. No macro, syntax, notation, axiom, sorry.
-/
import Derived.Test.YteapooonilhaiaaGreatDoorRows
import GoSem.ClaimSeven
namespace Go.Proofs.YteapooonilhaiaaGreatDoor
namespace Rows

/-- THE TIED CARD OF 'peloruslaw22.WalkBlocks'. -/
def walkBlocksCard : Claim7 := { stood := { row := walkBlocksRow, standIns := [], harness := (true, "38a9d780797851bb400dec46380923bf1cd467438d42ad78e567edcf745a65e3"), looks := true }, kinds := [], alts := [], laidByText := true, laidKinds := [.data, .data, .pinned], laidTests := true, laidLooks := .later }
def WalkBlocksCardSaid : Prop := Claim7.holds Tryz.pinned (.plain (OpenSpec.ofChange walkBlocksSpec)) walkBlocksCard

/-- THE TIED CARD OF 'peloruslaw22.WalkIfs'. -/
def walkIfsCard : Claim7 := { stood := { row := walkIfsRow, standIns := [], harness := (true, "38a9d780797851bb400dec46380923bf1cd467438d42ad78e567edcf745a65e3"), looks := true }, kinds := [], alts := [], laidByText := true, laidKinds := [.data, .data, .pinned], laidTests := true, laidLooks := .later }
def WalkIfsCardSaid : Prop := Claim7.holds Tryz.pinned (.plain (OpenSpec.ofChange walkIfsSpec)) walkIfsCard

/-- THE SECOND FORM's CARD OF 'peloruslaw22.WalkBlocks'. -/
def walkBlocksUptoCard : Claim7 := { stood := { row := walkBlocksUptoRow, standIns := [], harness := (true, "38a9d780797851bb400dec46380923bf1cd467438d42ad78e567edcf745a65e3"), looks := true }, kinds := [], alts := [], laidByText := true, laidKinds := [.data, .data, .pinned], laidTests := true, laidLooks := .later }
def WalkBlocksUptoCardSaid : Prop := Claim7.holds Tryz.pinned (.plain (OpenSpec.upto walkBlocksSpec)) walkBlocksUptoCard

/-- THE SECOND FORM's CARD OF 'peloruslaw22.WalkIfs'. -/
def walkIfsUptoCard : Claim7 := { stood := { row := walkIfsUptoRow, standIns := [], harness := (true, "38a9d780797851bb400dec46380923bf1cd467438d42ad78e567edcf745a65e3"), looks := true }, kinds := [], alts := [], laidByText := true, laidKinds := [.data, .data, .pinned], laidTests := true, laidLooks := .later }
def WalkIfsUptoCardSaid : Prop := Claim7.holds Tryz.pinned (.plain (OpenSpec.upto walkIfsSpec)) walkIfsUptoCard
end Rows
end Go.Proofs.YteapooonilhaiaaGreatDoor
