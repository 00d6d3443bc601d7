/-
  DERIVED. GIVEN WITH THE SEED: THE CARDS: each row of YtmgejgbomglegaaGreatDoorRows.lean that lists a variable, with what it lists TIED to the program's text (the seventh form; the later family's looks); each row that meets fmt, with fmt's text TOLD by the authors' own Lean function (tested against real Go, not proved from fmt's source: count such statements apart). THE CARD IS WHAT COUNTS. Prove the row's statement (the work); the ties are given (YtmgejgbomglegaaGreatDoorTie.lean); close each card by the builder's one call (the guide's Derived/Test/ToyasCard.lean, 'card_holds'). Laid BY PROGRAM, IN A SANDBOX (cutbox-door.mjs). By AI agents, Wed Nov 11 2026. No macro, syntax, notation, axiom, sorry.
-/
import Derived.Test.YtmgejgbomglegaaGreatDoorRows
import GoSem.ClaimSeven
namespace Go.Proofs.YtmgejgbomglegaaGreatDoor
namespace Rows

/-- THE TIED CARD OF 'peloruslaw22.WalkBlocks'. -/
def walkBlocksCard : Claim7 := { stood := { row := walkBlocksRow, standIns := [], harness := (true, "8c5dbd14d92571dfb21ed1a11a40dd47ab46d09d907d278f1261023ee190c1f9"), looks := true }, kinds := [], alts := [], laidByText := true, laidKinds := [.data, .data, .pinned], laidTests := true, laidLooks := .later }
def WalkBlocksCardSaid : Prop := Claim7.holds Tryz.pinned (.plain (OpenSpec.ofChange walkBlocksSpec)) walkBlocksCard

/-- THE TIED CARD OF 'peloruslaw22.WalkLoops'. -/
def walkLoopsCard : Claim7 := { stood := { row := walkLoopsRow, standIns := [], harness := (true, "8c5dbd14d92571dfb21ed1a11a40dd47ab46d09d907d278f1261023ee190c1f9"), looks := true }, kinds := [], alts := [], laidByText := true, laidKinds := [.data, .data, .pinned], laidTests := true, laidLooks := .later }
def WalkLoopsCardSaid : Prop := Claim7.holds Tryz.pinned (.plain (OpenSpec.ofChange walkLoopsSpec)) walkLoopsCard

/-- THE TIED CARD OF 'peloruslaw22.WalkLocals'. -/
def walkLocalsCard : Claim7 := { stood := { row := walkLocalsRow, standIns := [], harness := (true, "8c5dbd14d92571dfb21ed1a11a40dd47ab46d09d907d278f1261023ee190c1f9"), looks := true }, kinds := [], alts := [], laidByText := true, laidKinds := [.data, .data, .pinned], laidTests := true, laidLooks := .later }
def WalkLocalsCardSaid : Prop := Claim7.holds Tryz.pinned (.plain (OpenSpec.ofChange walkLocalsSpec)) walkLocalsCard

/-- THE TIED CARD OF 'peloruslaw22.WalkTraps'. -/
def walkTrapsCard : Claim7 := { stood := { row := walkTrapsRow, standIns := [], harness := (true, "8c5dbd14d92571dfb21ed1a11a40dd47ab46d09d907d278f1261023ee190c1f9"), looks := true }, kinds := [], alts := [], laidByText := true, laidKinds := [.data, .data, .pinned], laidTests := true, laidLooks := .later }
def WalkTrapsCardSaid : Prop := Claim7.holds Tryz.pinned (.plain (OpenSpec.ofChange walkTrapsSpec)) walkTrapsCard

/-- THE TIED CARD OF 'peloruslaw22.WalkGlobals'. -/
def walkGlobalsCard : Claim7 := { stood := { row := walkGlobalsRow, standIns := [], harness := (true, "8c5dbd14d92571dfb21ed1a11a40dd47ab46d09d907d278f1261023ee190c1f9"), looks := true }, kinds := [], alts := [], laidByText := true, laidKinds := [.data, .data, .pinned], laidTests := true, laidLooks := .later }
def WalkGlobalsCardSaid : Prop := Claim7.holds Tryz.pinned (.plain (OpenSpec.ofChange walkGlobalsSpec)) walkGlobalsCard

/-- THE TIED CARD OF 'peloruslaw22.WalkGrow'. -/
def walkGrowCard : Claim7 := { stood := { row := walkGrowRow, standIns := [], harness := (true, "8c5dbd14d92571dfb21ed1a11a40dd47ab46d09d907d278f1261023ee190c1f9"), looks := true }, kinds := [], alts := [], laidByText := true, laidKinds := [.data, .data, .pinned], laidTests := true, laidLooks := .later }
def WalkGrowCardSaid : Prop := Claim7.holds Tryz.pinned (.plain (OpenSpec.ofChange walkGrowSpec)) walkGrowCard

/-- THE TIED CARD OF 'peloruslaw22.WalkIfs'. -/
def walkIfsCard : Claim7 := { stood := { row := walkIfsRow, standIns := [], harness := (true, "8c5dbd14d92571dfb21ed1a11a40dd47ab46d09d907d278f1261023ee190c1f9"), looks := true }, kinds := [], alts := [], laidByText := true, laidKinds := [.data, .data, .pinned], laidTests := true, laidLooks := .later }
def WalkIfsCardSaid : Prop := Claim7.holds Tryz.pinned (.plain (OpenSpec.ofChange walkIfsSpec)) walkIfsCard

/-- THE SECOND FORM's CARD OF 'peloruslaw22.WalkBlocks'. -/
def walkBlocksUptoCard : Claim7 := { stood := { row := walkBlocksUptoRow, standIns := [], harness := (true, "8c5dbd14d92571dfb21ed1a11a40dd47ab46d09d907d278f1261023ee190c1f9"), looks := true }, kinds := [], alts := [], laidByText := true, laidKinds := [.data, .data, .pinned], laidTests := true, laidLooks := .later }
def WalkBlocksUptoCardSaid : Prop := Claim7.holds Tryz.pinned (.plain (OpenSpec.upto walkBlocksSpec)) walkBlocksUptoCard

/-- THE SECOND FORM's CARD OF 'peloruslaw22.WalkLoops'. -/
def walkLoopsUptoCard : Claim7 := { stood := { row := walkLoopsUptoRow, standIns := [], harness := (true, "8c5dbd14d92571dfb21ed1a11a40dd47ab46d09d907d278f1261023ee190c1f9"), looks := true }, kinds := [], alts := [], laidByText := true, laidKinds := [.data, .data, .pinned], laidTests := true, laidLooks := .later }
def WalkLoopsUptoCardSaid : Prop := Claim7.holds Tryz.pinned (.plain (OpenSpec.upto walkLoopsSpec)) walkLoopsUptoCard

/-- THE SECOND FORM's CARD OF 'peloruslaw22.WalkLocals'. -/
def walkLocalsUptoCard : Claim7 := { stood := { row := walkLocalsUptoRow, standIns := [], harness := (true, "8c5dbd14d92571dfb21ed1a11a40dd47ab46d09d907d278f1261023ee190c1f9"), looks := true }, kinds := [], alts := [], laidByText := true, laidKinds := [.data, .data, .pinned], laidTests := true, laidLooks := .later }
def WalkLocalsUptoCardSaid : Prop := Claim7.holds Tryz.pinned (.plain (OpenSpec.upto walkLocalsSpec)) walkLocalsUptoCard

/-- THE SECOND FORM's CARD OF 'peloruslaw22.WalkTraps'. -/
def walkTrapsUptoCard : Claim7 := { stood := { row := walkTrapsUptoRow, standIns := [], harness := (true, "8c5dbd14d92571dfb21ed1a11a40dd47ab46d09d907d278f1261023ee190c1f9"), looks := true }, kinds := [], alts := [], laidByText := true, laidKinds := [.data, .data, .pinned], laidTests := true, laidLooks := .later }
def WalkTrapsUptoCardSaid : Prop := Claim7.holds Tryz.pinned (.plain (OpenSpec.upto walkTrapsSpec)) walkTrapsUptoCard

/-- THE SECOND FORM's CARD OF 'peloruslaw22.WalkGlobals'. -/
def walkGlobalsUptoCard : Claim7 := { stood := { row := walkGlobalsUptoRow, standIns := [], harness := (true, "8c5dbd14d92571dfb21ed1a11a40dd47ab46d09d907d278f1261023ee190c1f9"), looks := true }, kinds := [], alts := [], laidByText := true, laidKinds := [.data, .data, .pinned], laidTests := true, laidLooks := .later }
def WalkGlobalsUptoCardSaid : Prop := Claim7.holds Tryz.pinned (.plain (OpenSpec.upto walkGlobalsSpec)) walkGlobalsUptoCard

/-- THE SECOND FORM's CARD OF 'peloruslaw22.WalkGrow'. -/
def walkGrowUptoCard : Claim7 := { stood := { row := walkGrowUptoRow, standIns := [], harness := (true, "8c5dbd14d92571dfb21ed1a11a40dd47ab46d09d907d278f1261023ee190c1f9"), looks := true }, kinds := [], alts := [], laidByText := true, laidKinds := [.data, .data, .pinned], laidTests := true, laidLooks := .later }
def WalkGrowUptoCardSaid : Prop := Claim7.holds Tryz.pinned (.plain (OpenSpec.upto walkGrowSpec)) walkGrowUptoCard

/-- THE SECOND FORM's CARD OF 'peloruslaw22.WalkIfs'. -/
def walkIfsUptoCard : Claim7 := { stood := { row := walkIfsUptoRow, standIns := [], harness := (true, "8c5dbd14d92571dfb21ed1a11a40dd47ab46d09d907d278f1261023ee190c1f9"), looks := true }, kinds := [], alts := [], laidByText := true, laidKinds := [.data, .data, .pinned], laidTests := true, laidLooks := .later }
def WalkIfsUptoCardSaid : Prop := Claim7.holds Tryz.pinned (.plain (OpenSpec.upto walkIfsSpec)) walkIfsUptoCard
end Rows
end Go.Proofs.YtmgejgbomglegaaGreatDoor
