/-
  NARROWER THAN 'FOR EVERY INPUT', by the rows' own cells (each row's printed sentence says how): ValidLimits: laid · ValidExports: laid · ValidStarts: laid · ValidSegments: laid · ValidGlobals: laid.
  DERIVED. THE GIVEN ROWS OF THIS SEAT. 5 by the template 'for every input the law returns true; each argument reads behind the call as it read before'; 0 by the template 'total and deterministic' (their statements: YtbfbiggmckbenaaGreatDoorTotals.lean).
  GIVEN WITH THE SEED: the statements are not yours to turn. If you find one false, say at which input.
  Laid BY PROGRAM, IN A SANDBOX (cutbox-rows.mjs): the forced cells as the released guide's own fill.sh prints them over the translation 44aea572c1200644… (all of the seat's roots in one cut). By AI agents, Wed Nov 11 2026. No macro, syntax, notation, axiom, sorry.
-/
import Derived.Test.YtbfbiggmckbenaaGreatDoorChecked
import GoSem.PinnedTables
import GoSem.Claim
import GoSem.ClaimJoined
import GoSem.ClaimMapViews
import Derived.JoinedTies
import Derived.KernelRfl
namespace Go.Proofs.YtbfbiggmckbenaaGreatDoor
/- THE CELL 'sum', in the pinned program and in every row, IS THE sha256 OF THE DUMP (.gsa) THAT YtbfbiggmckbenaaGreatDoorProg.lean LOADS. Nothing in Lean hashes anything: it is a label: what it is worth is what the hold of that sum in a sandbox is worth. -/
noncomputable def Tryz.pinned : Pinned := { name := "ytbfbiggmckbenaagreatdoor", sum := "44aea572c12006446daa3c6d43a498aa47648e4fb73b6a12944e52a50af9a359", checked := Tryz.checked }
namespace Rows
def none {H : Type} : Left H := { results := [], args := [] }

/- WHAT THE LISTED PACKAGE-LEVEL VARIABLES READ AS WHEN THE CALL BEGINS. Each datum BY PROGRAM (the guide's laid-datum.mjs) off the statement by which the dump's own 'gosem.cut.vars' lays the variable. In a bare row this is a premise. The card (YtbfbiggmckbenaaGreatDoorCards.lean) ties it to the program's text. -/
def laid_unicode_utf8_acceptRanges {H : Type} : DataW H := .agg [.agg [.lit (.int .u8 128), .lit (.int .u8 191)], .agg [.lit (.int .u8 160), .lit (.int .u8 191)], .agg [.lit (.int .u8 128), .lit (.int .u8 159)], .agg [.lit (.int .u8 144), .lit (.int .u8 191)], .agg [.lit (.int .u8 128), .lit (.int .u8 143)], .agg [.lit (.int .u8 0), .lit (.int .u8 0)], .agg [.lit (.int .u8 0), .lit (.int .u8 0)], .agg [.lit (.int .u8 0), .lit (.int .u8 0)], .agg [.lit (.int .u8 0), .lit (.int .u8 0)], .agg [.lit (.int .u8 0), .lit (.int .u8 0)], .agg [.lit (.int .u8 0), .lit (.int .u8 0)], .agg [.lit (.int .u8 0), .lit (.int .u8 0)], .agg [.lit (.int .u8 0), .lit (.int .u8 0)], .agg [.lit (.int .u8 0), .lit (.int .u8 0)], .agg [.lit (.int .u8 0), .lit (.int .u8 0)], .agg [.lit (.int .u8 0), .lit (.int .u8 0)]]
/-- One of Go's own tables, pinned by name: the form's constant. -/
def laid_unicode_utf8_first : DataW Unit := Go.Pinned.utf8First

/-- 'peloruslaw19.ValidLimits': WHATEVER THE INPUT: true; the input reads as it did. -/
def validLimitsSpec : ChangeSpec := { name := "validLimits", fn := fun _ => fun
  | [d1, d2, d3] => { results := [.lit (.bool true)], args := [d1, d2, d3] }
  | _ => none }
def validLimitsRow : OpenClaim := { program := "ytbfbiggmckbenaagreatdoor", sum := "44aea572c12006446daa3c6d43a498aa47648e4fb73b6a12944e52a50af9a359", func := "pelorus/peloruslaw19.ValidLimits", spec := "validLimits", inPlace := ["internal/abi.NoEscape", "internal/bytealg.MakeNoZero"], unfollowed := true, recurses := true, named := ["unicode/utf8.first", "unicode/utf8.acceptRanges"], apart := false, laid := [("unicode/utf8.acceptRanges", laid_unicode_utf8_acceptRanges), ("unicode/utf8.first", laid_unicode_utf8_first)] }
def ValidLimitsSaid : Prop := validLimitsRow.holds Tryz.pinned (OpenSpec.ofChange validLimitsSpec)

/-- ITS FALSE NEIGHBOUR: 'it returns false'. Refute it at one input. -/
def validLimitsWrong : ChangeSpec := { name := "validLimits", fn := fun _ => fun
  | [d1, d2, d3] => { results := [.lit (.bool false)], args := [d1, d2, d3] }
  | _ => none }
def ValidLimitsWrongFalsely : Prop := validLimitsRow.holds Tryz.pinned (OpenSpec.ofChange validLimitsWrong)

/-- 'peloruslaw19.ValidExports': WHATEVER THE INPUT: true; the input reads as it did. -/
def validExportsSpec : ChangeSpec := { name := "validExports", fn := fun _ => fun
  | [d1, d2, d3] => { results := [.lit (.bool true)], args := [d1, d2, d3] }
  | _ => none }
def validExportsRow : OpenClaim := { program := "ytbfbiggmckbenaagreatdoor", sum := "44aea572c12006446daa3c6d43a498aa47648e4fb73b6a12944e52a50af9a359", func := "pelorus/peloruslaw19.ValidExports", spec := "validExports", inPlace := ["internal/abi.NoEscape", "internal/bytealg.MakeNoZero"], unfollowed := true, recurses := true, named := ["unicode/utf8.first", "unicode/utf8.acceptRanges"], apart := false, laid := [("unicode/utf8.acceptRanges", laid_unicode_utf8_acceptRanges), ("unicode/utf8.first", laid_unicode_utf8_first)] }
def ValidExportsSaid : Prop := validExportsRow.holds Tryz.pinned (OpenSpec.ofChange validExportsSpec)

/-- ITS FALSE NEIGHBOUR: 'it returns false'. Refute it at one input. -/
def validExportsWrong : ChangeSpec := { name := "validExports", fn := fun _ => fun
  | [d1, d2, d3] => { results := [.lit (.bool false)], args := [d1, d2, d3] }
  | _ => none }
def ValidExportsWrongFalsely : Prop := validExportsRow.holds Tryz.pinned (OpenSpec.ofChange validExportsWrong)

/-- 'peloruslaw19.ValidStarts': WHATEVER THE INPUT: true; the input reads as it did. -/
def validStartsSpec : ChangeSpec := { name := "validStarts", fn := fun _ => fun
  | [d1, d2, d3] => { results := [.lit (.bool true)], args := [d1, d2, d3] }
  | _ => none }
def validStartsRow : OpenClaim := { program := "ytbfbiggmckbenaagreatdoor", sum := "44aea572c12006446daa3c6d43a498aa47648e4fb73b6a12944e52a50af9a359", func := "pelorus/peloruslaw19.ValidStarts", spec := "validStarts", inPlace := ["internal/abi.NoEscape", "internal/bytealg.MakeNoZero"], unfollowed := true, recurses := true, named := ["unicode/utf8.first", "unicode/utf8.acceptRanges"], apart := false, laid := [("unicode/utf8.acceptRanges", laid_unicode_utf8_acceptRanges), ("unicode/utf8.first", laid_unicode_utf8_first)] }
def ValidStartsSaid : Prop := validStartsRow.holds Tryz.pinned (OpenSpec.ofChange validStartsSpec)

/-- ITS FALSE NEIGHBOUR: 'it returns false'. Refute it at one input. -/
def validStartsWrong : ChangeSpec := { name := "validStarts", fn := fun _ => fun
  | [d1, d2, d3] => { results := [.lit (.bool false)], args := [d1, d2, d3] }
  | _ => none }
def ValidStartsWrongFalsely : Prop := validStartsRow.holds Tryz.pinned (OpenSpec.ofChange validStartsWrong)

/-- 'peloruslaw19.ValidSegments': WHATEVER THE INPUT: true; the input reads as it did. -/
def validSegmentsSpec : ChangeSpec := { name := "validSegments", fn := fun _ => fun
  | [d1, d2, d3] => { results := [.lit (.bool true)], args := [d1, d2, d3] }
  | _ => none }
def validSegmentsRow : OpenClaim := { program := "ytbfbiggmckbenaagreatdoor", sum := "44aea572c12006446daa3c6d43a498aa47648e4fb73b6a12944e52a50af9a359", func := "pelorus/peloruslaw19.ValidSegments", spec := "validSegments", inPlace := ["internal/abi.NoEscape", "internal/bytealg.MakeNoZero"], unfollowed := true, recurses := true, named := ["unicode/utf8.first", "unicode/utf8.acceptRanges"], apart := false, laid := [("unicode/utf8.acceptRanges", laid_unicode_utf8_acceptRanges), ("unicode/utf8.first", laid_unicode_utf8_first)] }
def ValidSegmentsSaid : Prop := validSegmentsRow.holds Tryz.pinned (OpenSpec.ofChange validSegmentsSpec)

/-- ITS FALSE NEIGHBOUR: 'it returns false'. Refute it at one input. -/
def validSegmentsWrong : ChangeSpec := { name := "validSegments", fn := fun _ => fun
  | [d1, d2, d3] => { results := [.lit (.bool false)], args := [d1, d2, d3] }
  | _ => none }
def ValidSegmentsWrongFalsely : Prop := validSegmentsRow.holds Tryz.pinned (OpenSpec.ofChange validSegmentsWrong)

/-- 'peloruslaw19.ValidGlobals': WHATEVER THE INPUT: true; the input reads as it did. -/
def validGlobalsSpec : ChangeSpec := { name := "validGlobals", fn := fun _ => fun
  | [d1, d2, d3] => { results := [.lit (.bool true)], args := [d1, d2, d3] }
  | _ => none }
def validGlobalsRow : OpenClaim := { program := "ytbfbiggmckbenaagreatdoor", sum := "44aea572c12006446daa3c6d43a498aa47648e4fb73b6a12944e52a50af9a359", func := "pelorus/peloruslaw19.ValidGlobals", spec := "validGlobals", inPlace := ["internal/abi.NoEscape", "internal/bytealg.MakeNoZero"], unfollowed := true, recurses := true, named := ["unicode/utf8.first", "unicode/utf8.acceptRanges"], apart := false, laid := [("unicode/utf8.acceptRanges", laid_unicode_utf8_acceptRanges), ("unicode/utf8.first", laid_unicode_utf8_first)] }
def ValidGlobalsSaid : Prop := validGlobalsRow.holds Tryz.pinned (OpenSpec.ofChange validGlobalsSpec)

/-- ITS FALSE NEIGHBOUR: 'it returns false'. Refute it at one input. -/
def validGlobalsWrong : ChangeSpec := { name := "validGlobals", fn := fun _ => fun
  | [d1, d2, d3] => { results := [.lit (.bool false)], args := [d1, d2, d3] }
  | _ => none }
def ValidGlobalsWrongFalsely : Prop := validGlobalsRow.holds Tryz.pinned (OpenSpec.ofChange validGlobalsWrong)

/- THE SECOND FORM. 'bulk': how many values and letters a reading holds, each counted each time it is reached (what is shared counts as often as it is met; a slice's spare places count too). A statement '..UptoSaid' is the law's where the arguments, and the package variables that the reading takes, are together of bulk at most 1048576: NARROWER than '..Said'. Prove '..Said' where nothing that the law and all that it calls make is longer than what came in: it says more and counts as full. Else prove '..UptoSaid'. A law counts once. -/
mutual
def uptoBulk {H : Type} : DataW H → Nat
  | .lit (.string bytes) => bytes.length + 1
  | .lit _ => 1
  | .nil => 1
  | .ptr d => uptoBulk d + 1
  | .slice elems spare => uptoBulkAll elems + uptoBulkAll spare + 1
  | .agg parts => uptoBulkAll parts + 1
  | .iface _ d => uptoBulk d + 1
  | .map entries => uptoBulkEntries entries + 1
  | .held _ => 1
def uptoBulkAll {H : Type} : List (DataW H) → Nat
  | [] => 0
  | d :: r => uptoBulk d + uptoBulkAll r
def uptoBulkEntries {H : Type} : List (Lit × DataW H) → Nat
  | [] => 0
  | x :: r => uptoBulkEntry x + uptoBulkEntries r
def uptoBulkEntry {H : Type} : Lit × DataW H → Nat
  | (.string bytes, d) => bytes.length + uptoBulk d + 1
  | (_, d) => uptoBulk d + 1
 end
def uptoSmall : (H : Type) → List (DataW H) → Bool := fun _ ds => decide (uptoBulkAll ds ≤ 1048576)
def OpenSpec.upto (s : _root_.Go.ChangeSpec) : _root_.Go.OpenSpec := { _root_.Go.OpenSpec.ofChange s with cond := some uptoSmall }

/-- 'peloruslaw19.ValidLimits', WHERE WHAT IT READS IS OF BULK AT MOST 1048576: true; the input reads as it did. -/
def validLimitsUptoRow : OpenClaim := { program := "ytbfbiggmckbenaagreatdoor", sum := "44aea572c12006446daa3c6d43a498aa47648e4fb73b6a12944e52a50af9a359", func := "pelorus/peloruslaw19.ValidLimits", spec := "validLimits", inPlace := ["internal/abi.NoEscape", "internal/bytealg.MakeNoZero"], unfollowed := true, recurses := true, named := ["unicode/utf8.first", "unicode/utf8.acceptRanges"], apart := false, laid := [("unicode/utf8.acceptRanges", laid_unicode_utf8_acceptRanges), ("unicode/utf8.first", laid_unicode_utf8_first)], narrowed := true }
def ValidLimitsUptoSaid : Prop := validLimitsUptoRow.holds Tryz.pinned (OpenSpec.upto validLimitsSpec)

/-- 'peloruslaw19.ValidExports', WHERE WHAT IT READS IS OF BULK AT MOST 1048576: true; the input reads as it did. -/
def validExportsUptoRow : OpenClaim := { program := "ytbfbiggmckbenaagreatdoor", sum := "44aea572c12006446daa3c6d43a498aa47648e4fb73b6a12944e52a50af9a359", func := "pelorus/peloruslaw19.ValidExports", spec := "validExports", inPlace := ["internal/abi.NoEscape", "internal/bytealg.MakeNoZero"], unfollowed := true, recurses := true, named := ["unicode/utf8.first", "unicode/utf8.acceptRanges"], apart := false, laid := [("unicode/utf8.acceptRanges", laid_unicode_utf8_acceptRanges), ("unicode/utf8.first", laid_unicode_utf8_first)], narrowed := true }
def ValidExportsUptoSaid : Prop := validExportsUptoRow.holds Tryz.pinned (OpenSpec.upto validExportsSpec)

/-- 'peloruslaw19.ValidStarts', WHERE WHAT IT READS IS OF BULK AT MOST 1048576: true; the input reads as it did. -/
def validStartsUptoRow : OpenClaim := { program := "ytbfbiggmckbenaagreatdoor", sum := "44aea572c12006446daa3c6d43a498aa47648e4fb73b6a12944e52a50af9a359", func := "pelorus/peloruslaw19.ValidStarts", spec := "validStarts", inPlace := ["internal/abi.NoEscape", "internal/bytealg.MakeNoZero"], unfollowed := true, recurses := true, named := ["unicode/utf8.first", "unicode/utf8.acceptRanges"], apart := false, laid := [("unicode/utf8.acceptRanges", laid_unicode_utf8_acceptRanges), ("unicode/utf8.first", laid_unicode_utf8_first)], narrowed := true }
def ValidStartsUptoSaid : Prop := validStartsUptoRow.holds Tryz.pinned (OpenSpec.upto validStartsSpec)

/-- 'peloruslaw19.ValidSegments', WHERE WHAT IT READS IS OF BULK AT MOST 1048576: true; the input reads as it did. -/
def validSegmentsUptoRow : OpenClaim := { program := "ytbfbiggmckbenaagreatdoor", sum := "44aea572c12006446daa3c6d43a498aa47648e4fb73b6a12944e52a50af9a359", func := "pelorus/peloruslaw19.ValidSegments", spec := "validSegments", inPlace := ["internal/abi.NoEscape", "internal/bytealg.MakeNoZero"], unfollowed := true, recurses := true, named := ["unicode/utf8.first", "unicode/utf8.acceptRanges"], apart := false, laid := [("unicode/utf8.acceptRanges", laid_unicode_utf8_acceptRanges), ("unicode/utf8.first", laid_unicode_utf8_first)], narrowed := true }
def ValidSegmentsUptoSaid : Prop := validSegmentsUptoRow.holds Tryz.pinned (OpenSpec.upto validSegmentsSpec)

/-- 'peloruslaw19.ValidGlobals', WHERE WHAT IT READS IS OF BULK AT MOST 1048576: true; the input reads as it did. -/
def validGlobalsUptoRow : OpenClaim := { program := "ytbfbiggmckbenaagreatdoor", sum := "44aea572c12006446daa3c6d43a498aa47648e4fb73b6a12944e52a50af9a359", func := "pelorus/peloruslaw19.ValidGlobals", spec := "validGlobals", inPlace := ["internal/abi.NoEscape", "internal/bytealg.MakeNoZero"], unfollowed := true, recurses := true, named := ["unicode/utf8.first", "unicode/utf8.acceptRanges"], apart := false, laid := [("unicode/utf8.acceptRanges", laid_unicode_utf8_acceptRanges), ("unicode/utf8.first", laid_unicode_utf8_first)], narrowed := true }
def ValidGlobalsUptoSaid : Prop := validGlobalsUptoRow.holds Tryz.pinned (OpenSpec.upto validGlobalsSpec)

end Rows
end Go.Proofs.YtbfbiggmckbenaaGreatDoor
