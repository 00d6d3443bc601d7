/-
  DERIVED. GIVEN WITH THE SEED: THE CARDS: each row of YtbehooekcpfgcaaGreatDoorRows.lean that lists a variable, with what it lists TIED to the program's text (the seventh form; the later family's looks); each row that meets fmt, with fmt's text TOLD by the authors' own Lean function (tested against real Go, not proved from fmt's source: count such statements apart). THE CARD IS WHAT COUNTS. Prove the row's statement (the work); the ties are given (YtbehooekcpfgcaaGreatDoorTie.lean); close each card by the builder's one call (the guide's Derived/Test/ToyasCard.lean, 'card_holds'). Laid BY PROGRAM, IN A SANDBOX (cutbox-door.mjs). By AI agents, Wed Nov 11 2026. No macro, syntax, notation, axiom, sorry.
-/
import Derived.Test.YtbehooekcpfgcaaGreatDoorRows
import GoSem.ClaimSeven
namespace Go.Proofs.YtbehooekcpfgcaaGreatDoor
namespace Rows

/-- THE TIED CARD OF 'peloruslaw21.InstTables'. -/
def instTablesCard : Claim7 := { stood := { row := instTablesRow, standIns := [], harness := (true, "0daf25fa59d1717afa3aac158f90a16cf9414a6a486c90778383384fd350e5ab"), looks := true }, kinds := [], alts := [], laidByText := true, laidKinds := [.data, .pinned], laidTests := true, laidLooks := .later }
def InstTablesCardSaid : Prop := Claim7.holds Tryz.pinned (.plain (OpenSpec.ofChange instTablesSpec)) instTablesCard

/-- THE SECOND FORM's CARD OF 'peloruslaw21.InstTables'. -/
def instTablesUptoCard : Claim7 := { stood := { row := instTablesUptoRow, standIns := [], harness := (true, "0daf25fa59d1717afa3aac158f90a16cf9414a6a486c90778383384fd350e5ab"), looks := true }, kinds := [], alts := [], laidByText := true, laidKinds := [.data, .pinned], laidTests := true, laidLooks := .later }
def InstTablesUptoCardSaid : Prop := Claim7.holds Tryz.pinned (.plain (OpenSpec.upto instTablesSpec)) instTablesUptoCard
end Rows
end Go.Proofs.YtbehooekcpfgcaaGreatDoor
