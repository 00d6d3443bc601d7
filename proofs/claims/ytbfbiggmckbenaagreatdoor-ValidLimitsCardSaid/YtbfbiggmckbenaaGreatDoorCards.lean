/-
  DERIVED. GIVEN WITH THE SEED: THE CARDS: each row of YtbfbiggmckbenaaGreatDoorRows.lean that lists a variable, with what it lists TIED to the program's text (the seventh form; the later family's looks); each row that meets fmt, with fmt's text TOLD by the authors' own Lean function (tested against real Go, not proved from fmt's source: count such statements apart). THE CARD IS WHAT COUNTS. Prove the row's statement (the work); the ties are given (YtbfbiggmckbenaaGreatDoorTie.lean); close each card by the builder's one call (the guide's Derived/Test/ToyasCard.lean, 'card_holds'). Laid BY PROGRAM, IN A SANDBOX (cutbox-door.mjs). By AI agents, Wed Nov 11 2026. No macro, syntax, notation, axiom, sorry.
-/
import Derived.Test.YtbfbiggmckbenaaGreatDoorRows
import GoSem.ClaimSeven
namespace Go.Proofs.YtbfbiggmckbenaaGreatDoor
namespace Rows

/-- THE TIED CARD OF 'peloruslaw19.ValidLimits'. -/
def validLimitsCard : Claim7 := { stood := { row := validLimitsRow, standIns := [], harness := (true, "a6303923cb31ecaee2761cc31bd845bfea7def94cfcbea66917a931c78681b75"), looks := true }, kinds := [], alts := [], laidByText := true, laidKinds := [.data, .pinned], laidTests := true, laidLooks := .later }
def ValidLimitsCardSaid : Prop := Claim7.holds Tryz.pinned (.plain (OpenSpec.ofChange validLimitsSpec)) validLimitsCard

/-- THE TIED CARD OF 'peloruslaw19.ValidExports'. -/
def validExportsCard : Claim7 := { stood := { row := validExportsRow, standIns := [], harness := (true, "a6303923cb31ecaee2761cc31bd845bfea7def94cfcbea66917a931c78681b75"), looks := true }, kinds := [], alts := [], laidByText := true, laidKinds := [.data, .pinned], laidTests := true, laidLooks := .later }
def ValidExportsCardSaid : Prop := Claim7.holds Tryz.pinned (.plain (OpenSpec.ofChange validExportsSpec)) validExportsCard

/-- THE TIED CARD OF 'peloruslaw19.ValidStarts'. -/
def validStartsCard : Claim7 := { stood := { row := validStartsRow, standIns := [], harness := (true, "a6303923cb31ecaee2761cc31bd845bfea7def94cfcbea66917a931c78681b75"), looks := true }, kinds := [], alts := [], laidByText := true, laidKinds := [.data, .pinned], laidTests := true, laidLooks := .later }
def ValidStartsCardSaid : Prop := Claim7.holds Tryz.pinned (.plain (OpenSpec.ofChange validStartsSpec)) validStartsCard

/-- THE TIED CARD OF 'peloruslaw19.ValidSegments'. -/
def validSegmentsCard : Claim7 := { stood := { row := validSegmentsRow, standIns := [], harness := (true, "a6303923cb31ecaee2761cc31bd845bfea7def94cfcbea66917a931c78681b75"), looks := true }, kinds := [], alts := [], laidByText := true, laidKinds := [.data, .pinned], laidTests := true, laidLooks := .later }
def ValidSegmentsCardSaid : Prop := Claim7.holds Tryz.pinned (.plain (OpenSpec.ofChange validSegmentsSpec)) validSegmentsCard

/-- THE TIED CARD OF 'peloruslaw19.ValidGlobals'. -/
def validGlobalsCard : Claim7 := { stood := { row := validGlobalsRow, standIns := [], harness := (true, "a6303923cb31ecaee2761cc31bd845bfea7def94cfcbea66917a931c78681b75"), looks := true }, kinds := [], alts := [], laidByText := true, laidKinds := [.data, .pinned], laidTests := true, laidLooks := .later }
def ValidGlobalsCardSaid : Prop := Claim7.holds Tryz.pinned (.plain (OpenSpec.ofChange validGlobalsSpec)) validGlobalsCard

/-- THE SECOND FORM's CARD OF 'peloruslaw19.ValidLimits'. -/
def validLimitsUptoCard : Claim7 := { stood := { row := validLimitsUptoRow, standIns := [], harness := (true, "a6303923cb31ecaee2761cc31bd845bfea7def94cfcbea66917a931c78681b75"), looks := true }, kinds := [], alts := [], laidByText := true, laidKinds := [.data, .pinned], laidTests := true, laidLooks := .later }
def ValidLimitsUptoCardSaid : Prop := Claim7.holds Tryz.pinned (.plain (OpenSpec.upto validLimitsSpec)) validLimitsUptoCard

/-- THE SECOND FORM's CARD OF 'peloruslaw19.ValidExports'. -/
def validExportsUptoCard : Claim7 := { stood := { row := validExportsUptoRow, standIns := [], harness := (true, "a6303923cb31ecaee2761cc31bd845bfea7def94cfcbea66917a931c78681b75"), looks := true }, kinds := [], alts := [], laidByText := true, laidKinds := [.data, .pinned], laidTests := true, laidLooks := .later }
def ValidExportsUptoCardSaid : Prop := Claim7.holds Tryz.pinned (.plain (OpenSpec.upto validExportsSpec)) validExportsUptoCard

/-- THE SECOND FORM's CARD OF 'peloruslaw19.ValidStarts'. -/
def validStartsUptoCard : Claim7 := { stood := { row := validStartsUptoRow, standIns := [], harness := (true, "a6303923cb31ecaee2761cc31bd845bfea7def94cfcbea66917a931c78681b75"), looks := true }, kinds := [], alts := [], laidByText := true, laidKinds := [.data, .pinned], laidTests := true, laidLooks := .later }
def ValidStartsUptoCardSaid : Prop := Claim7.holds Tryz.pinned (.plain (OpenSpec.upto validStartsSpec)) validStartsUptoCard

/-- THE SECOND FORM's CARD OF 'peloruslaw19.ValidSegments'. -/
def validSegmentsUptoCard : Claim7 := { stood := { row := validSegmentsUptoRow, standIns := [], harness := (true, "a6303923cb31ecaee2761cc31bd845bfea7def94cfcbea66917a931c78681b75"), looks := true }, kinds := [], alts := [], laidByText := true, laidKinds := [.data, .pinned], laidTests := true, laidLooks := .later }
def ValidSegmentsUptoCardSaid : Prop := Claim7.holds Tryz.pinned (.plain (OpenSpec.upto validSegmentsSpec)) validSegmentsUptoCard

/-- THE SECOND FORM's CARD OF 'peloruslaw19.ValidGlobals'. -/
def validGlobalsUptoCard : Claim7 := { stood := { row := validGlobalsUptoRow, standIns := [], harness := (true, "a6303923cb31ecaee2761cc31bd845bfea7def94cfcbea66917a931c78681b75"), looks := true }, kinds := [], alts := [], laidByText := true, laidKinds := [.data, .pinned], laidTests := true, laidLooks := .later }
def ValidGlobalsUptoCardSaid : Prop := Claim7.holds Tryz.pinned (.plain (OpenSpec.upto validGlobalsSpec)) validGlobalsUptoCard
end Rows
end Go.Proofs.YtbfbiggmckbenaaGreatDoor
