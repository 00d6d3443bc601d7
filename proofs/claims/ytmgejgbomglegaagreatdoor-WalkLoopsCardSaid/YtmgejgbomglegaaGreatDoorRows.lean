/-
  NARROWER THAN 'FOR EVERY INPUT', by the rows' own cells (each row's printed sentence says how): WalkBlocks: laid · WalkLoops: laid · WalkLocals: laid · WalkTraps: laid · WalkGlobals: laid · WalkGrow: laid · WalkIfs: laid.
  DERIVED. THE GIVEN ROWS OF THIS SEAT. 7 by the template 'for every input the law returns true; each argument reads behind the call as it read before'; 0 by the template 'total and deterministic' (their statements: YtmgejgbomglegaaGreatDoorTotals.lean).
  GIVEN WITH THE SEED: the statements are not yours to turn. If you find one false, say at which input.
  Laid BY PROGRAM, IN A SANDBOX (cutbox-rows.mjs): the forced cells as the released guide's own fill.sh prints them over the translation 1186adccd1fd51d4… (all of the seat's roots in one cut). By AI agents, Wed Nov 11 2026. No macro, syntax, notation, axiom, sorry.
-/
import Derived.Test.YtmgejgbomglegaaGreatDoorChecked
import GoSem.PinnedTables
import GoSem.Claim
import GoSem.ClaimJoined
import GoSem.ClaimMapViews
import Derived.JoinedTies
import Derived.KernelRfl
namespace Go.Proofs.YtmgejgbomglegaaGreatDoor
/- THE CELL 'sum', in the pinned program and in every row, IS THE sha256 OF THE DUMP (.gsa) THAT YtmgejgbomglegaaGreatDoorProg.lean LOADS. Nothing in Lean hashes anything: it is a label: what it is worth is what the hold of that sum in a sandbox is worth. -/
noncomputable def Tryz.pinned : Pinned := { name := "ytmgejgbomglegaagreatdoor", sum := "1186adccd1fd51d42682ec0c147e576c613a39c11fbbe47b9388c1ed69b9b5ea", checked := Tryz.checked }
namespace Rows
def none {H : Type} : Left H := { results := [], args := [] }

/- WHAT THE LISTED PACKAGE-LEVEL VARIABLES READ AS WHEN THE CALL BEGINS. Each datum BY PROGRAM (the guide's laid-datum.mjs) off the statement by which the dump's own 'gosem.cut.vars' lays the variable. In a bare row this is a premise. The card (YtmgejgbomglegaaGreatDoorCards.lean) ties it to the program's text. -/
def laid_math_bits_deBruijn64tab {H : Type} : DataW H := .agg [.lit (.int .u8 0), .lit (.int .u8 1), .lit (.int .u8 56), .lit (.int .u8 2), .lit (.int .u8 57), .lit (.int .u8 49), .lit (.int .u8 28), .lit (.int .u8 3), .lit (.int .u8 61), .lit (.int .u8 58), .lit (.int .u8 42), .lit (.int .u8 50), .lit (.int .u8 38), .lit (.int .u8 29), .lit (.int .u8 17), .lit (.int .u8 4), .lit (.int .u8 62), .lit (.int .u8 47), .lit (.int .u8 59), .lit (.int .u8 36), .lit (.int .u8 45), .lit (.int .u8 43), .lit (.int .u8 51), .lit (.int .u8 22), .lit (.int .u8 53), .lit (.int .u8 39), .lit (.int .u8 33), .lit (.int .u8 30), .lit (.int .u8 24), .lit (.int .u8 18), .lit (.int .u8 12), .lit (.int .u8 5), .lit (.int .u8 63), .lit (.int .u8 55), .lit (.int .u8 48), .lit (.int .u8 27), .lit (.int .u8 60), .lit (.int .u8 41), .lit (.int .u8 37), .lit (.int .u8 16), .lit (.int .u8 46), .lit (.int .u8 35), .lit (.int .u8 44), .lit (.int .u8 21), .lit (.int .u8 52), .lit (.int .u8 32), .lit (.int .u8 23), .lit (.int .u8 11), .lit (.int .u8 54), .lit (.int .u8 26), .lit (.int .u8 40), .lit (.int .u8 15), .lit (.int .u8 34), .lit (.int .u8 20), .lit (.int .u8 31), .lit (.int .u8 10), .lit (.int .u8 25), .lit (.int .u8 14), .lit (.int .u8 19), .lit (.int .u8 9), .lit (.int .u8 13), .lit (.int .u8 8), .lit (.int .u8 7), .lit (.int .u8 6)]
def laid_unicode_utf8_acceptRanges {H : Type} : DataW H := .agg [.agg [.lit (.int .u8 128), .lit (.int .u8 191)], .agg [.lit (.int .u8 160), .lit (.int .u8 191)], .agg [.lit (.int .u8 128), .lit (.int .u8 159)], .agg [.lit (.int .u8 144), .lit (.int .u8 191)], .agg [.lit (.int .u8 128), .lit (.int .u8 143)], .agg [.lit (.int .u8 0), .lit (.int .u8 0)], .agg [.lit (.int .u8 0), .lit (.int .u8 0)], .agg [.lit (.int .u8 0), .lit (.int .u8 0)], .agg [.lit (.int .u8 0), .lit (.int .u8 0)], .agg [.lit (.int .u8 0), .lit (.int .u8 0)], .agg [.lit (.int .u8 0), .lit (.int .u8 0)], .agg [.lit (.int .u8 0), .lit (.int .u8 0)], .agg [.lit (.int .u8 0), .lit (.int .u8 0)], .agg [.lit (.int .u8 0), .lit (.int .u8 0)], .agg [.lit (.int .u8 0), .lit (.int .u8 0)], .agg [.lit (.int .u8 0), .lit (.int .u8 0)]]
/-- One of Go's own tables, pinned by name: the form's constant. -/
def laid_unicode_utf8_first : DataW Unit := Go.Pinned.utf8First

/-- 'peloruslaw22.WalkBlocks': WHATEVER THE INPUT: true; the input reads as it did. -/
def walkBlocksSpec : ChangeSpec := { name := "walkBlocks", fn := fun _ => fun
  | [d1, d2, d3] => { results := [.lit (.bool true)], args := [d1, d2, d3] }
  | _ => none }
def walkBlocksRow : OpenClaim := { program := "ytmgejgbomglegaagreatdoor", sum := "1186adccd1fd51d42682ec0c147e576c613a39c11fbbe47b9388c1ed69b9b5ea", func := "pelorus/peloruslaw22.WalkBlocks", spec := "walkBlocks", inPlace := ["internal/abi.NoEscape", "internal/bytealg.MakeNoZero", "math.Float32frombits", "math.archCeil", "math.archFloor", "math.Float64bits", "math.Float64frombits", "math.archTrunc", "math.Float32bits", "math.RoundToEven", "math.sqrt", "math.archMin", "math.archMax"], unfollowed := true, recurses := true, named := ["unicode/utf8.first", "unicode/utf8.acceptRanges", "math/bits.deBruijn64tab"], apart := false, laid := [("math/bits.deBruijn64tab", laid_math_bits_deBruijn64tab), ("unicode/utf8.acceptRanges", laid_unicode_utf8_acceptRanges), ("unicode/utf8.first", laid_unicode_utf8_first)] }
def WalkBlocksSaid : Prop := walkBlocksRow.holds Tryz.pinned (OpenSpec.ofChange walkBlocksSpec)

/-- ITS FALSE NEIGHBOUR: 'it returns false'. Refute it at one input. -/
def walkBlocksWrong : ChangeSpec := { name := "walkBlocks", fn := fun _ => fun
  | [d1, d2, d3] => { results := [.lit (.bool false)], args := [d1, d2, d3] }
  | _ => none }
def WalkBlocksWrongFalsely : Prop := walkBlocksRow.holds Tryz.pinned (OpenSpec.ofChange walkBlocksWrong)

/-- 'peloruslaw22.WalkLoops': WHATEVER THE INPUT: true; the input reads as it did. -/
def walkLoopsSpec : ChangeSpec := { name := "walkLoops", fn := fun _ => fun
  | [d] => { results := [.lit (.bool true)], args := [d] }
  | _ => none }
def walkLoopsRow : OpenClaim := { program := "ytmgejgbomglegaagreatdoor", sum := "1186adccd1fd51d42682ec0c147e576c613a39c11fbbe47b9388c1ed69b9b5ea", func := "pelorus/peloruslaw22.WalkLoops", spec := "walkLoops", inPlace := ["internal/abi.NoEscape", "internal/bytealg.MakeNoZero", "math.Float32frombits", "math.archCeil", "math.archFloor", "math.Float64bits", "math.Float64frombits", "math.archTrunc", "math.Float32bits", "math.RoundToEven", "math.sqrt", "math.archMin", "math.archMax"], unfollowed := true, recurses := true, named := ["unicode/utf8.first", "unicode/utf8.acceptRanges", "math/bits.deBruijn64tab"], apart := false, laid := [("math/bits.deBruijn64tab", laid_math_bits_deBruijn64tab), ("unicode/utf8.acceptRanges", laid_unicode_utf8_acceptRanges), ("unicode/utf8.first", laid_unicode_utf8_first)] }
def WalkLoopsSaid : Prop := walkLoopsRow.holds Tryz.pinned (OpenSpec.ofChange walkLoopsSpec)

/-- ITS FALSE NEIGHBOUR: 'it returns false'. Refute it at one input. -/
def walkLoopsWrong : ChangeSpec := { name := "walkLoops", fn := fun _ => fun
  | [d] => { results := [.lit (.bool false)], args := [d] }
  | _ => none }
def WalkLoopsWrongFalsely : Prop := walkLoopsRow.holds Tryz.pinned (OpenSpec.ofChange walkLoopsWrong)

/-- 'peloruslaw22.WalkLocals': WHATEVER THE INPUT: true; the input reads as it did. -/
def walkLocalsSpec : ChangeSpec := { name := "walkLocals", fn := fun _ => fun
  | [d1, d2, d3] => { results := [.lit (.bool true)], args := [d1, d2, d3] }
  | _ => none }
def walkLocalsRow : OpenClaim := { program := "ytmgejgbomglegaagreatdoor", sum := "1186adccd1fd51d42682ec0c147e576c613a39c11fbbe47b9388c1ed69b9b5ea", func := "pelorus/peloruslaw22.WalkLocals", spec := "walkLocals", inPlace := ["internal/abi.NoEscape", "internal/bytealg.MakeNoZero", "math.Float32frombits", "math.archCeil", "math.archFloor", "math.Float64bits", "math.Float64frombits", "math.archTrunc", "math.Float32bits", "math.RoundToEven", "math.sqrt", "math.archMin", "math.archMax"], unfollowed := true, recurses := true, named := ["unicode/utf8.first", "unicode/utf8.acceptRanges", "math/bits.deBruijn64tab"], apart := false, laid := [("math/bits.deBruijn64tab", laid_math_bits_deBruijn64tab), ("unicode/utf8.acceptRanges", laid_unicode_utf8_acceptRanges), ("unicode/utf8.first", laid_unicode_utf8_first)] }
def WalkLocalsSaid : Prop := walkLocalsRow.holds Tryz.pinned (OpenSpec.ofChange walkLocalsSpec)

/-- ITS FALSE NEIGHBOUR: 'it returns false'. Refute it at one input. -/
def walkLocalsWrong : ChangeSpec := { name := "walkLocals", fn := fun _ => fun
  | [d1, d2, d3] => { results := [.lit (.bool false)], args := [d1, d2, d3] }
  | _ => none }
def WalkLocalsWrongFalsely : Prop := walkLocalsRow.holds Tryz.pinned (OpenSpec.ofChange walkLocalsWrong)

/-- 'peloruslaw22.WalkTraps': WHATEVER THE INPUT: true; the input reads as it did. -/
def walkTrapsSpec : ChangeSpec := { name := "walkTraps", fn := fun _ => fun
  | [d1, d2] => { results := [.lit (.bool true)], args := [d1, d2] }
  | _ => none }
def walkTrapsRow : OpenClaim := { program := "ytmgejgbomglegaagreatdoor", sum := "1186adccd1fd51d42682ec0c147e576c613a39c11fbbe47b9388c1ed69b9b5ea", func := "pelorus/peloruslaw22.WalkTraps", spec := "walkTraps", inPlace := ["internal/abi.NoEscape", "internal/bytealg.MakeNoZero", "math.Float32frombits", "math.archCeil", "math.archFloor", "math.Float64bits", "math.Float64frombits", "math.archTrunc", "math.Float32bits", "math.RoundToEven", "math.sqrt", "math.archMin", "math.archMax"], unfollowed := true, recurses := true, named := ["unicode/utf8.first", "unicode/utf8.acceptRanges", "math/bits.deBruijn64tab"], apart := false, laid := [("math/bits.deBruijn64tab", laid_math_bits_deBruijn64tab), ("unicode/utf8.acceptRanges", laid_unicode_utf8_acceptRanges), ("unicode/utf8.first", laid_unicode_utf8_first)] }
def WalkTrapsSaid : Prop := walkTrapsRow.holds Tryz.pinned (OpenSpec.ofChange walkTrapsSpec)

/-- ITS FALSE NEIGHBOUR: 'it returns false'. Refute it at one input. -/
def walkTrapsWrong : ChangeSpec := { name := "walkTraps", fn := fun _ => fun
  | [d1, d2] => { results := [.lit (.bool false)], args := [d1, d2] }
  | _ => none }
def WalkTrapsWrongFalsely : Prop := walkTrapsRow.holds Tryz.pinned (OpenSpec.ofChange walkTrapsWrong)

/-- 'peloruslaw22.WalkGlobals': WHATEVER THE INPUT: true; the input reads as it did. -/
def walkGlobalsSpec : ChangeSpec := { name := "walkGlobals", fn := fun _ => fun
  | [d] => { results := [.lit (.bool true)], args := [d] }
  | _ => none }
def walkGlobalsRow : OpenClaim := { program := "ytmgejgbomglegaagreatdoor", sum := "1186adccd1fd51d42682ec0c147e576c613a39c11fbbe47b9388c1ed69b9b5ea", func := "pelorus/peloruslaw22.WalkGlobals", spec := "walkGlobals", inPlace := ["internal/abi.NoEscape", "internal/bytealg.MakeNoZero", "math.Float32frombits", "math.archCeil", "math.archFloor", "math.Float64bits", "math.Float64frombits", "math.archTrunc", "math.Float32bits", "math.RoundToEven", "math.sqrt", "math.archMin", "math.archMax"], unfollowed := true, recurses := true, named := ["unicode/utf8.first", "unicode/utf8.acceptRanges", "math/bits.deBruijn64tab"], apart := false, laid := [("math/bits.deBruijn64tab", laid_math_bits_deBruijn64tab), ("unicode/utf8.acceptRanges", laid_unicode_utf8_acceptRanges), ("unicode/utf8.first", laid_unicode_utf8_first)] }
def WalkGlobalsSaid : Prop := walkGlobalsRow.holds Tryz.pinned (OpenSpec.ofChange walkGlobalsSpec)

/-- ITS FALSE NEIGHBOUR: 'it returns false'. Refute it at one input. -/
def walkGlobalsWrong : ChangeSpec := { name := "walkGlobals", fn := fun _ => fun
  | [d] => { results := [.lit (.bool false)], args := [d] }
  | _ => none }
def WalkGlobalsWrongFalsely : Prop := walkGlobalsRow.holds Tryz.pinned (OpenSpec.ofChange walkGlobalsWrong)

/-- 'peloruslaw22.WalkGrow': WHATEVER THE INPUT: true; the input reads as it did. -/
def walkGrowSpec : ChangeSpec := { name := "walkGrow", fn := fun _ => fun
  | [d] => { results := [.lit (.bool true)], args := [d] }
  | _ => none }
def walkGrowRow : OpenClaim := { program := "ytmgejgbomglegaagreatdoor", sum := "1186adccd1fd51d42682ec0c147e576c613a39c11fbbe47b9388c1ed69b9b5ea", func := "pelorus/peloruslaw22.WalkGrow", spec := "walkGrow", inPlace := ["internal/abi.NoEscape", "internal/bytealg.MakeNoZero", "math.Float32frombits", "math.archCeil", "math.archFloor", "math.Float64bits", "math.Float64frombits", "math.archTrunc", "math.Float32bits", "math.RoundToEven", "math.sqrt", "math.archMin", "math.archMax"], unfollowed := true, recurses := true, named := ["unicode/utf8.first", "unicode/utf8.acceptRanges", "math/bits.deBruijn64tab"], apart := false, laid := [("math/bits.deBruijn64tab", laid_math_bits_deBruijn64tab), ("unicode/utf8.acceptRanges", laid_unicode_utf8_acceptRanges), ("unicode/utf8.first", laid_unicode_utf8_first)] }
def WalkGrowSaid : Prop := walkGrowRow.holds Tryz.pinned (OpenSpec.ofChange walkGrowSpec)

/-- ITS FALSE NEIGHBOUR: 'it returns false'. Refute it at one input. -/
def walkGrowWrong : ChangeSpec := { name := "walkGrow", fn := fun _ => fun
  | [d] => { results := [.lit (.bool false)], args := [d] }
  | _ => none }
def WalkGrowWrongFalsely : Prop := walkGrowRow.holds Tryz.pinned (OpenSpec.ofChange walkGrowWrong)

/-- 'peloruslaw22.WalkIfs': WHATEVER THE INPUT: true; the input reads as it did. -/
def walkIfsSpec : ChangeSpec := { name := "walkIfs", fn := fun _ => fun
  | [d1, d2, d3] => { results := [.lit (.bool true)], args := [d1, d2, d3] }
  | _ => none }
def walkIfsRow : OpenClaim := { program := "ytmgejgbomglegaagreatdoor", sum := "1186adccd1fd51d42682ec0c147e576c613a39c11fbbe47b9388c1ed69b9b5ea", func := "pelorus/peloruslaw22.WalkIfs", spec := "walkIfs", inPlace := ["internal/abi.NoEscape", "internal/bytealg.MakeNoZero", "math.Float32frombits", "math.archCeil", "math.archFloor", "math.Float64bits", "math.Float64frombits", "math.archTrunc", "math.Float32bits", "math.RoundToEven", "math.sqrt", "math.archMin", "math.archMax"], unfollowed := true, recurses := true, named := ["unicode/utf8.first", "unicode/utf8.acceptRanges", "math/bits.deBruijn64tab"], apart := false, laid := [("math/bits.deBruijn64tab", laid_math_bits_deBruijn64tab), ("unicode/utf8.acceptRanges", laid_unicode_utf8_acceptRanges), ("unicode/utf8.first", laid_unicode_utf8_first)] }
def WalkIfsSaid : Prop := walkIfsRow.holds Tryz.pinned (OpenSpec.ofChange walkIfsSpec)

/-- ITS FALSE NEIGHBOUR: 'it returns false'. Refute it at one input. -/
def walkIfsWrong : ChangeSpec := { name := "walkIfs", fn := fun _ => fun
  | [d1, d2, d3] => { results := [.lit (.bool false)], args := [d1, d2, d3] }
  | _ => none }
def WalkIfsWrongFalsely : Prop := walkIfsRow.holds Tryz.pinned (OpenSpec.ofChange walkIfsWrong)

/- THE SECOND FORM. 'bulk': how many values and letters a reading holds, each counted each time it is reached (what is shared counts as often as it is met; a slice's spare places count too). A statement '..UptoSaid' is the law's where the arguments, and the package variables that the reading takes, are together of bulk at most 1048576: NARROWER than '..Said'. Prove '..Said' where nothing that the law and all that it calls make is longer than what came in: it says more and counts as full. Else prove '..UptoSaid'. A law counts once. -/
mutual
def uptoBulk {H : Type} : DataW H → Nat
  | .lit (.string bytes) => bytes.length + 1
  | .lit _ => 1
  | .nil => 1
  | .ptr d => uptoBulk d + 1
  | .slice elems spare => uptoBulkAll elems + uptoBulkAll spare + 1
  | .agg parts => uptoBulkAll parts + 1
  | .iface _ d => uptoBulk d + 1
  | .map entries => uptoBulkEntries entries + 1
  | .held _ => 1
def uptoBulkAll {H : Type} : List (DataW H) → Nat
  | [] => 0
  | d :: r => uptoBulk d + uptoBulkAll r
def uptoBulkEntries {H : Type} : List (Lit × DataW H) → Nat
  | [] => 0
  | x :: r => uptoBulkEntry x + uptoBulkEntries r
def uptoBulkEntry {H : Type} : Lit × DataW H → Nat
  | (.string bytes, d) => bytes.length + uptoBulk d + 1
  | (_, d) => uptoBulk d + 1
 end
def uptoSmall : (H : Type) → List (DataW H) → Bool := fun _ ds => decide (uptoBulkAll ds ≤ 1048576)
def OpenSpec.upto (s : _root_.Go.ChangeSpec) : _root_.Go.OpenSpec := { _root_.Go.OpenSpec.ofChange s with cond := some uptoSmall }

/-- 'peloruslaw22.WalkBlocks', WHERE WHAT IT READS IS OF BULK AT MOST 1048576: true; the input reads as it did. -/
def walkBlocksUptoRow : OpenClaim := { program := "ytmgejgbomglegaagreatdoor", sum := "1186adccd1fd51d42682ec0c147e576c613a39c11fbbe47b9388c1ed69b9b5ea", func := "pelorus/peloruslaw22.WalkBlocks", spec := "walkBlocks", inPlace := ["internal/abi.NoEscape", "internal/bytealg.MakeNoZero", "math.Float32frombits", "math.archCeil", "math.archFloor", "math.Float64bits", "math.Float64frombits", "math.archTrunc", "math.Float32bits", "math.RoundToEven", "math.sqrt", "math.archMin", "math.archMax"], unfollowed := true, recurses := true, named := ["unicode/utf8.first", "unicode/utf8.acceptRanges", "math/bits.deBruijn64tab"], apart := false, laid := [("math/bits.deBruijn64tab", laid_math_bits_deBruijn64tab), ("unicode/utf8.acceptRanges", laid_unicode_utf8_acceptRanges), ("unicode/utf8.first", laid_unicode_utf8_first)], narrowed := true }
def WalkBlocksUptoSaid : Prop := walkBlocksUptoRow.holds Tryz.pinned (OpenSpec.upto walkBlocksSpec)

/-- 'peloruslaw22.WalkLoops', WHERE WHAT IT READS IS OF BULK AT MOST 1048576: true; the input reads as it did. -/
def walkLoopsUptoRow : OpenClaim := { program := "ytmgejgbomglegaagreatdoor", sum := "1186adccd1fd51d42682ec0c147e576c613a39c11fbbe47b9388c1ed69b9b5ea", func := "pelorus/peloruslaw22.WalkLoops", spec := "walkLoops", inPlace := ["internal/abi.NoEscape", "internal/bytealg.MakeNoZero", "math.Float32frombits", "math.archCeil", "math.archFloor", "math.Float64bits", "math.Float64frombits", "math.archTrunc", "math.Float32bits", "math.RoundToEven", "math.sqrt", "math.archMin", "math.archMax"], unfollowed := true, recurses := true, named := ["unicode/utf8.first", "unicode/utf8.acceptRanges", "math/bits.deBruijn64tab"], apart := false, laid := [("math/bits.deBruijn64tab", laid_math_bits_deBruijn64tab), ("unicode/utf8.acceptRanges", laid_unicode_utf8_acceptRanges), ("unicode/utf8.first", laid_unicode_utf8_first)], narrowed := true }
def WalkLoopsUptoSaid : Prop := walkLoopsUptoRow.holds Tryz.pinned (OpenSpec.upto walkLoopsSpec)

/-- 'peloruslaw22.WalkLocals', WHERE WHAT IT READS IS OF BULK AT MOST 1048576: true; the input reads as it did. -/
def walkLocalsUptoRow : OpenClaim := { program := "ytmgejgbomglegaagreatdoor", sum := "1186adccd1fd51d42682ec0c147e576c613a39c11fbbe47b9388c1ed69b9b5ea", func := "pelorus/peloruslaw22.WalkLocals", spec := "walkLocals", inPlace := ["internal/abi.NoEscape", "internal/bytealg.MakeNoZero", "math.Float32frombits", "math.archCeil", "math.archFloor", "math.Float64bits", "math.Float64frombits", "math.archTrunc", "math.Float32bits", "math.RoundToEven", "math.sqrt", "math.archMin", "math.archMax"], unfollowed := true, recurses := true, named := ["unicode/utf8.first", "unicode/utf8.acceptRanges", "math/bits.deBruijn64tab"], apart := false, laid := [("math/bits.deBruijn64tab", laid_math_bits_deBruijn64tab), ("unicode/utf8.acceptRanges", laid_unicode_utf8_acceptRanges), ("unicode/utf8.first", laid_unicode_utf8_first)], narrowed := true }
def WalkLocalsUptoSaid : Prop := walkLocalsUptoRow.holds Tryz.pinned (OpenSpec.upto walkLocalsSpec)

/-- 'peloruslaw22.WalkTraps', WHERE WHAT IT READS IS OF BULK AT MOST 1048576: true; the input reads as it did. -/
def walkTrapsUptoRow : OpenClaim := { program := "ytmgejgbomglegaagreatdoor", sum := "1186adccd1fd51d42682ec0c147e576c613a39c11fbbe47b9388c1ed69b9b5ea", func := "pelorus/peloruslaw22.WalkTraps", spec := "walkTraps", inPlace := ["internal/abi.NoEscape", "internal/bytealg.MakeNoZero", "math.Float32frombits", "math.archCeil", "math.archFloor", "math.Float64bits", "math.Float64frombits", "math.archTrunc", "math.Float32bits", "math.RoundToEven", "math.sqrt", "math.archMin", "math.archMax"], unfollowed := true, recurses := true, named := ["unicode/utf8.first", "unicode/utf8.acceptRanges", "math/bits.deBruijn64tab"], apart := false, laid := [("math/bits.deBruijn64tab", laid_math_bits_deBruijn64tab), ("unicode/utf8.acceptRanges", laid_unicode_utf8_acceptRanges), ("unicode/utf8.first", laid_unicode_utf8_first)], narrowed := true }
def WalkTrapsUptoSaid : Prop := walkTrapsUptoRow.holds Tryz.pinned (OpenSpec.upto walkTrapsSpec)

/-- 'peloruslaw22.WalkGlobals', WHERE WHAT IT READS IS OF BULK AT MOST 1048576: true; the input reads as it did. -/
def walkGlobalsUptoRow : OpenClaim := { program := "ytmgejgbomglegaagreatdoor", sum := "1186adccd1fd51d42682ec0c147e576c613a39c11fbbe47b9388c1ed69b9b5ea", func := "pelorus/peloruslaw22.WalkGlobals", spec := "walkGlobals", inPlace := ["internal/abi.NoEscape", "internal/bytealg.MakeNoZero", "math.Float32frombits", "math.archCeil", "math.archFloor", "math.Float64bits", "math.Float64frombits", "math.archTrunc", "math.Float32bits", "math.RoundToEven", "math.sqrt", "math.archMin", "math.archMax"], unfollowed := true, recurses := true, named := ["unicode/utf8.first", "unicode/utf8.acceptRanges", "math/bits.deBruijn64tab"], apart := false, laid := [("math/bits.deBruijn64tab", laid_math_bits_deBruijn64tab), ("unicode/utf8.acceptRanges", laid_unicode_utf8_acceptRanges), ("unicode/utf8.first", laid_unicode_utf8_first)], narrowed := true }
def WalkGlobalsUptoSaid : Prop := walkGlobalsUptoRow.holds Tryz.pinned (OpenSpec.upto walkGlobalsSpec)

/-- 'peloruslaw22.WalkGrow', WHERE WHAT IT READS IS OF BULK AT MOST 1048576: true; the input reads as it did. -/
def walkGrowUptoRow : OpenClaim := { program := "ytmgejgbomglegaagreatdoor", sum := "1186adccd1fd51d42682ec0c147e576c613a39c11fbbe47b9388c1ed69b9b5ea", func := "pelorus/peloruslaw22.WalkGrow", spec := "walkGrow", inPlace := ["internal/abi.NoEscape", "internal/bytealg.MakeNoZero", "math.Float32frombits", "math.archCeil", "math.archFloor", "math.Float64bits", "math.Float64frombits", "math.archTrunc", "math.Float32bits", "math.RoundToEven", "math.sqrt", "math.archMin", "math.archMax"], unfollowed := true, recurses := true, named := ["unicode/utf8.first", "unicode/utf8.acceptRanges", "math/bits.deBruijn64tab"], apart := false, laid := [("math/bits.deBruijn64tab", laid_math_bits_deBruijn64tab), ("unicode/utf8.acceptRanges", laid_unicode_utf8_acceptRanges), ("unicode/utf8.first", laid_unicode_utf8_first)], narrowed := true }
def WalkGrowUptoSaid : Prop := walkGrowUptoRow.holds Tryz.pinned (OpenSpec.upto walkGrowSpec)

/-- 'peloruslaw22.WalkIfs', WHERE WHAT IT READS IS OF BULK AT MOST 1048576: true; the input reads as it did. -/
def walkIfsUptoRow : OpenClaim := { program := "ytmgejgbomglegaagreatdoor", sum := "1186adccd1fd51d42682ec0c147e576c613a39c11fbbe47b9388c1ed69b9b5ea", func := "pelorus/peloruslaw22.WalkIfs", spec := "walkIfs", inPlace := ["internal/abi.NoEscape", "internal/bytealg.MakeNoZero", "math.Float32frombits", "math.archCeil", "math.archFloor", "math.Float64bits", "math.Float64frombits", "math.archTrunc", "math.Float32bits", "math.RoundToEven", "math.sqrt", "math.archMin", "math.archMax"], unfollowed := true, recurses := true, named := ["unicode/utf8.first", "unicode/utf8.acceptRanges", "math/bits.deBruijn64tab"], apart := false, laid := [("math/bits.deBruijn64tab", laid_math_bits_deBruijn64tab), ("unicode/utf8.acceptRanges", laid_unicode_utf8_acceptRanges), ("unicode/utf8.first", laid_unicode_utf8_first)], narrowed := true }
def WalkIfsUptoSaid : Prop := walkIfsUptoRow.holds Tryz.pinned (OpenSpec.upto walkIfsSpec)

end Rows
end Go.Proofs.YtmgejgbomglegaaGreatDoor
