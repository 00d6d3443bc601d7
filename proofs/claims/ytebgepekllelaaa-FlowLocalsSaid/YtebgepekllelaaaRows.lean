/-
  No cell of these rows narrows 'for every input' (looked for: loops, veiled, ifaces, maps, wideKeys, modest, calm, conditions, laid).
  DERIVED. THE GIVEN ROWS OF THIS SEAT. 10 by the template 'for every input the law returns true; each argument reads behind the call as it read before'; 0 by the template 'total and deterministic' (their statements: YtebgepekllelaaaTotals.lean).
  GIVEN WITH THE SEED: the statements are not yours to turn. If you find one false, say at which input.
  Laid BY PROGRAM, IN A SANDBOX (cutbox-rows.mjs): the forced cells as the released guide's own fill.sh prints them over the translation cd5c7d296f864045… (all of the seat's roots in one cut). By AI agents, Wed Nov 11 2026. No macro, syntax, notation, axiom, sorry.
-/
import Derived.Test.YtebgepekllelaaaChecked
import GoSem.Claim
import GoSem.ClaimJoined
import GoSem.ClaimMapViews
import Derived.JoinedTies
import Derived.KernelRfl
namespace Go.Proofs.Ytebgepekllelaaa
/- THE CELL 'sum', in the pinned program and in every row, IS THE sha256 OF THE DUMP (.gsa) THAT YtebgepekllelaaaProg.lean LOADS. Nothing in Lean hashes anything: it is a label: what it is worth is what the hold of that sum in a sandbox is worth. -/
noncomputable def Try.pinned : Pinned := { name := "ytebgepekllelaaa", sum := "cd5c7d296f864045704645780019c24b16d6306d59f0f401b4102ddf911c72b0", checked := Try.checked }
namespace Rows
def none {H : Type} : Left H := { results := [], args := [] }

/-- 'peloruslaw18.FlowDead': WHATEVER THE INPUT: true; the input reads as it did. -/
def flowDeadSpec : ChangeSpec := { name := "flowDead", fn := fun _ => fun
  | [d1, d2] => { results := [.lit (.bool true)], args := [d1, d2] }
  | _ => none }
def flowDeadRow : OpenClaim := { program := "ytebgepekllelaaa", sum := "cd5c7d296f864045704645780019c24b16d6306d59f0f401b4102ddf911c72b0", func := "pelorus/peloruslaw18.FlowDead", spec := "flowDead", unfollowed := true, recurses := true, apart := false }
def FlowDeadSaid : Prop := flowDeadRow.holds Try.pinned (OpenSpec.ofChange flowDeadSpec)

/-- ITS FALSE NEIGHBOUR: 'it returns false'. Refute it at one input. -/
def flowDeadWrong : ChangeSpec := { name := "flowDead", fn := fun _ => fun
  | [d1, d2] => { results := [.lit (.bool false)], args := [d1, d2] }
  | _ => none }
def FlowDeadWrongFalsely : Prop := flowDeadRow.holds Try.pinned (OpenSpec.ofChange flowDeadWrong)

/-- 'peloruslaw18.FlowOps': WHATEVER THE INPUT: true; the input reads as it did. -/
def flowOpsSpec : ChangeSpec := { name := "flowOps", fn := fun _ => fun
  | [d1, d2] => { results := [.lit (.bool true)], args := [d1, d2] }
  | _ => none }
def flowOpsRow : OpenClaim := { program := "ytebgepekllelaaa", sum := "cd5c7d296f864045704645780019c24b16d6306d59f0f401b4102ddf911c72b0", func := "pelorus/peloruslaw18.FlowOps", spec := "flowOps", unfollowed := true, recurses := true, apart := false }
def FlowOpsSaid : Prop := flowOpsRow.holds Try.pinned (OpenSpec.ofChange flowOpsSpec)

/-- ITS FALSE NEIGHBOUR: 'it returns false'. Refute it at one input. -/
def flowOpsWrong : ChangeSpec := { name := "flowOps", fn := fun _ => fun
  | [d1, d2] => { results := [.lit (.bool false)], args := [d1, d2] }
  | _ => none }
def FlowOpsWrongFalsely : Prop := flowOpsRow.holds Try.pinned (OpenSpec.ofChange flowOpsWrong)

/-- 'peloruslaw18.FlowBlocks': WHATEVER THE INPUT: true; the input reads as it did. -/
def flowBlocksSpec : ChangeSpec := { name := "flowBlocks", fn := fun _ => fun
  | [d1, d2, d3] => { results := [.lit (.bool true)], args := [d1, d2, d3] }
  | _ => none }
def flowBlocksRow : OpenClaim := { program := "ytebgepekllelaaa", sum := "cd5c7d296f864045704645780019c24b16d6306d59f0f401b4102ddf911c72b0", func := "pelorus/peloruslaw18.FlowBlocks", spec := "flowBlocks", unfollowed := true, recurses := true, apart := false }
def FlowBlocksSaid : Prop := flowBlocksRow.holds Try.pinned (OpenSpec.ofChange flowBlocksSpec)

/-- ITS FALSE NEIGHBOUR: 'it returns false'. Refute it at one input. -/
def flowBlocksWrong : ChangeSpec := { name := "flowBlocks", fn := fun _ => fun
  | [d1, d2, d3] => { results := [.lit (.bool false)], args := [d1, d2, d3] }
  | _ => none }
def FlowBlocksWrongFalsely : Prop := flowBlocksRow.holds Try.pinned (OpenSpec.ofChange flowBlocksWrong)

/-- 'peloruslaw18.FlowIfs': WHATEVER THE INPUT: true; the input reads as it did. -/
def flowIfsSpec : ChangeSpec := { name := "flowIfs", fn := fun _ => fun
  | [d1, d2, d3] => { results := [.lit (.bool true)], args := [d1, d2, d3] }
  | _ => none }
def flowIfsRow : OpenClaim := { program := "ytebgepekllelaaa", sum := "cd5c7d296f864045704645780019c24b16d6306d59f0f401b4102ddf911c72b0", func := "pelorus/peloruslaw18.FlowIfs", spec := "flowIfs", unfollowed := true, recurses := true, apart := false }
def FlowIfsSaid : Prop := flowIfsRow.holds Try.pinned (OpenSpec.ofChange flowIfsSpec)

/-- ITS FALSE NEIGHBOUR: 'it returns false'. Refute it at one input. -/
def flowIfsWrong : ChangeSpec := { name := "flowIfs", fn := fun _ => fun
  | [d1, d2, d3] => { results := [.lit (.bool false)], args := [d1, d2, d3] }
  | _ => none }
def FlowIfsWrongFalsely : Prop := flowIfsRow.holds Try.pinned (OpenSpec.ofChange flowIfsWrong)

/-- 'peloruslaw18.FlowBranches': WHATEVER THE INPUT: true; the input reads as it did. -/
def flowBranchesSpec : ChangeSpec := { name := "flowBranches", fn := fun _ => fun
  | [d1, d2, d3, d4] => { results := [.lit (.bool true)], args := [d1, d2, d3, d4] }
  | _ => none }
def flowBranchesRow : OpenClaim := { program := "ytebgepekllelaaa", sum := "cd5c7d296f864045704645780019c24b16d6306d59f0f401b4102ddf911c72b0", func := "pelorus/peloruslaw18.FlowBranches", spec := "flowBranches", unfollowed := true, recurses := true, apart := false }
def FlowBranchesSaid : Prop := flowBranchesRow.holds Try.pinned (OpenSpec.ofChange flowBranchesSpec)

/-- ITS FALSE NEIGHBOUR: 'it returns false'. Refute it at one input. -/
def flowBranchesWrong : ChangeSpec := { name := "flowBranches", fn := fun _ => fun
  | [d1, d2, d3, d4] => { results := [.lit (.bool false)], args := [d1, d2, d3, d4] }
  | _ => none }
def FlowBranchesWrongFalsely : Prop := flowBranchesRow.holds Try.pinned (OpenSpec.ofChange flowBranchesWrong)

/-- 'peloruslaw18.FlowLocals': WHATEVER THE INPUT: true; the input reads as it did. -/
def flowLocalsSpec : ChangeSpec := { name := "flowLocals", fn := fun _ => fun
  | [d1, d2, d3, d4] => { results := [.lit (.bool true)], args := [d1, d2, d3, d4] }
  | _ => none }
def flowLocalsRow : OpenClaim := { program := "ytebgepekllelaaa", sum := "cd5c7d296f864045704645780019c24b16d6306d59f0f401b4102ddf911c72b0", func := "pelorus/peloruslaw18.FlowLocals", spec := "flowLocals", unfollowed := true, recurses := true, apart := false }
def FlowLocalsSaid : Prop := flowLocalsRow.holds Try.pinned (OpenSpec.ofChange flowLocalsSpec)

/-- ITS FALSE NEIGHBOUR: 'it returns false'. Refute it at one input. -/
def flowLocalsWrong : ChangeSpec := { name := "flowLocals", fn := fun _ => fun
  | [d1, d2, d3, d4] => { results := [.lit (.bool false)], args := [d1, d2, d3, d4] }
  | _ => none }
def FlowLocalsWrongFalsely : Prop := flowLocalsRow.holds Try.pinned (OpenSpec.ofChange flowLocalsWrong)

/-- 'peloruslaw18.FlowCalls': WHATEVER THE INPUT: true; the input reads as it did. -/
def flowCallsSpec : ChangeSpec := { name := "flowCalls", fn := fun _ => fun
  | [d1, d2, d3, d4] => { results := [.lit (.bool true)], args := [d1, d2, d3, d4] }
  | _ => none }
def flowCallsRow : OpenClaim := { program := "ytebgepekllelaaa", sum := "cd5c7d296f864045704645780019c24b16d6306d59f0f401b4102ddf911c72b0", func := "pelorus/peloruslaw18.FlowCalls", spec := "flowCalls", unfollowed := true, recurses := true, apart := false }
def FlowCallsSaid : Prop := flowCallsRow.holds Try.pinned (OpenSpec.ofChange flowCallsSpec)

/-- ITS FALSE NEIGHBOUR: 'it returns false'. Refute it at one input. -/
def flowCallsWrong : ChangeSpec := { name := "flowCalls", fn := fun _ => fun
  | [d1, d2, d3, d4] => { results := [.lit (.bool false)], args := [d1, d2, d3, d4] }
  | _ => none }
def FlowCallsWrongFalsely : Prop := flowCallsRow.holds Try.pinned (OpenSpec.ofChange flowCallsWrong)

/-- 'peloruslaw18.FlowMemory': WHATEVER THE INPUT: true; the input reads as it did. -/
def flowMemorySpec : ChangeSpec := { name := "flowMemory", fn := fun _ => fun
  | [d1, d2, d3] => { results := [.lit (.bool true)], args := [d1, d2, d3] }
  | _ => none }
def flowMemoryRow : OpenClaim := { program := "ytebgepekllelaaa", sum := "cd5c7d296f864045704645780019c24b16d6306d59f0f401b4102ddf911c72b0", func := "pelorus/peloruslaw18.FlowMemory", spec := "flowMemory", unfollowed := true, recurses := true, apart := false }
def FlowMemorySaid : Prop := flowMemoryRow.holds Try.pinned (OpenSpec.ofChange flowMemorySpec)

/-- ITS FALSE NEIGHBOUR: 'it returns false'. Refute it at one input. -/
def flowMemoryWrong : ChangeSpec := { name := "flowMemory", fn := fun _ => fun
  | [d1, d2, d3] => { results := [.lit (.bool false)], args := [d1, d2, d3] }
  | _ => none }
def FlowMemoryWrongFalsely : Prop := flowMemoryRow.holds Try.pinned (OpenSpec.ofChange flowMemoryWrong)

/-- 'peloruslaw18.FlowSelects': WHATEVER THE INPUT: true; the input reads as it did. -/
def flowSelectsSpec : ChangeSpec := { name := "flowSelects", fn := fun _ => fun
  | [d1, d2, d3] => { results := [.lit (.bool true)], args := [d1, d2, d3] }
  | _ => none }
def flowSelectsRow : OpenClaim := { program := "ytebgepekllelaaa", sum := "cd5c7d296f864045704645780019c24b16d6306d59f0f401b4102ddf911c72b0", func := "pelorus/peloruslaw18.FlowSelects", spec := "flowSelects", unfollowed := true, recurses := true, apart := false }
def FlowSelectsSaid : Prop := flowSelectsRow.holds Try.pinned (OpenSpec.ofChange flowSelectsSpec)

/-- ITS FALSE NEIGHBOUR: 'it returns false'. Refute it at one input. -/
def flowSelectsWrong : ChangeSpec := { name := "flowSelects", fn := fun _ => fun
  | [d1, d2, d3] => { results := [.lit (.bool false)], args := [d1, d2, d3] }
  | _ => none }
def FlowSelectsWrongFalsely : Prop := flowSelectsRow.holds Try.pinned (OpenSpec.ofChange flowSelectsWrong)

/-- 'peloruslaw18.FlowHeights': WHATEVER THE INPUT: true; the input reads as it did. -/
def flowHeightsSpec : ChangeSpec := { name := "flowHeights", fn := fun _ => fun
  | [d1, d2] => { results := [.lit (.bool true)], args := [d1, d2] }
  | _ => none }
def flowHeightsRow : OpenClaim := { program := "ytebgepekllelaaa", sum := "cd5c7d296f864045704645780019c24b16d6306d59f0f401b4102ddf911c72b0", func := "pelorus/peloruslaw18.FlowHeights", spec := "flowHeights", unfollowed := true, recurses := true, apart := false }
def FlowHeightsSaid : Prop := flowHeightsRow.holds Try.pinned (OpenSpec.ofChange flowHeightsSpec)

/-- ITS FALSE NEIGHBOUR: 'it returns false'. Refute it at one input. -/
def flowHeightsWrong : ChangeSpec := { name := "flowHeights", fn := fun _ => fun
  | [d1, d2] => { results := [.lit (.bool false)], args := [d1, d2] }
  | _ => none }
def FlowHeightsWrongFalsely : Prop := flowHeightsRow.holds Try.pinned (OpenSpec.ofChange flowHeightsWrong)

/- THE SECOND FORM. 'bulk': how many values and letters a reading holds, each counted each time it is reached (what is shared counts as often as it is met; a slice's spare places count too). A statement '..UptoSaid' is the law's where the arguments, and the package variables that the reading takes, are together of bulk at most 1048576: NARROWER than '..Said'. Prove '..Said' where nothing that the law and all that it calls make is longer than what came in: it says more and counts as full. Else prove '..UptoSaid'. A law counts once. -/
mutual
def uptoBulk {H : Type} : DataW H → Nat
  | .lit (.string bytes) => bytes.length + 1
  | .lit _ => 1
  | .nil => 1
  | .ptr d => uptoBulk d + 1
  | .slice elems spare => uptoBulkAll elems + uptoBulkAll spare + 1
  | .agg parts => uptoBulkAll parts + 1
  | .iface _ d => uptoBulk d + 1
  | .map entries => uptoBulkEntries entries + 1
  | .held _ => 1
def uptoBulkAll {H : Type} : List (DataW H) → Nat
  | [] => 0
  | d :: r => uptoBulk d + uptoBulkAll r
def uptoBulkEntries {H : Type} : List (Lit × DataW H) → Nat
  | [] => 0
  | x :: r => uptoBulkEntry x + uptoBulkEntries r
def uptoBulkEntry {H : Type} : Lit × DataW H → Nat
  | (.string bytes, d) => bytes.length + uptoBulk d + 1
  | (_, d) => uptoBulk d + 1
 end
def uptoSmall : (H : Type) → List (DataW H) → Bool := fun _ ds => decide (uptoBulkAll ds ≤ 1048576)
def OpenSpec.upto (s : _root_.Go.ChangeSpec) : _root_.Go.OpenSpec := { _root_.Go.OpenSpec.ofChange s with cond := some uptoSmall }

/-- 'peloruslaw18.FlowDead', WHERE WHAT IT READS IS OF BULK AT MOST 1048576: true; the input reads as it did. -/
def flowDeadUptoRow : OpenClaim := { program := "ytebgepekllelaaa", sum := "cd5c7d296f864045704645780019c24b16d6306d59f0f401b4102ddf911c72b0", func := "pelorus/peloruslaw18.FlowDead", spec := "flowDead", unfollowed := true, recurses := true, apart := false, narrowed := true }
def FlowDeadUptoSaid : Prop := flowDeadUptoRow.holds Try.pinned (OpenSpec.upto flowDeadSpec)

/-- 'peloruslaw18.FlowOps', WHERE WHAT IT READS IS OF BULK AT MOST 1048576: true; the input reads as it did. -/
def flowOpsUptoRow : OpenClaim := { program := "ytebgepekllelaaa", sum := "cd5c7d296f864045704645780019c24b16d6306d59f0f401b4102ddf911c72b0", func := "pelorus/peloruslaw18.FlowOps", spec := "flowOps", unfollowed := true, recurses := true, apart := false, narrowed := true }
def FlowOpsUptoSaid : Prop := flowOpsUptoRow.holds Try.pinned (OpenSpec.upto flowOpsSpec)

/-- 'peloruslaw18.FlowBlocks', WHERE WHAT IT READS IS OF BULK AT MOST 1048576: true; the input reads as it did. -/
def flowBlocksUptoRow : OpenClaim := { program := "ytebgepekllelaaa", sum := "cd5c7d296f864045704645780019c24b16d6306d59f0f401b4102ddf911c72b0", func := "pelorus/peloruslaw18.FlowBlocks", spec := "flowBlocks", unfollowed := true, recurses := true, apart := false, narrowed := true }
def FlowBlocksUptoSaid : Prop := flowBlocksUptoRow.holds Try.pinned (OpenSpec.upto flowBlocksSpec)

/-- 'peloruslaw18.FlowIfs', WHERE WHAT IT READS IS OF BULK AT MOST 1048576: true; the input reads as it did. -/
def flowIfsUptoRow : OpenClaim := { program := "ytebgepekllelaaa", sum := "cd5c7d296f864045704645780019c24b16d6306d59f0f401b4102ddf911c72b0", func := "pelorus/peloruslaw18.FlowIfs", spec := "flowIfs", unfollowed := true, recurses := true, apart := false, narrowed := true }
def FlowIfsUptoSaid : Prop := flowIfsUptoRow.holds Try.pinned (OpenSpec.upto flowIfsSpec)

/-- 'peloruslaw18.FlowBranches', WHERE WHAT IT READS IS OF BULK AT MOST 1048576: true; the input reads as it did. -/
def flowBranchesUptoRow : OpenClaim := { program := "ytebgepekllelaaa", sum := "cd5c7d296f864045704645780019c24b16d6306d59f0f401b4102ddf911c72b0", func := "pelorus/peloruslaw18.FlowBranches", spec := "flowBranches", unfollowed := true, recurses := true, apart := false, narrowed := true }
def FlowBranchesUptoSaid : Prop := flowBranchesUptoRow.holds Try.pinned (OpenSpec.upto flowBranchesSpec)

/-- 'peloruslaw18.FlowLocals', WHERE WHAT IT READS IS OF BULK AT MOST 1048576: true; the input reads as it did. -/
def flowLocalsUptoRow : OpenClaim := { program := "ytebgepekllelaaa", sum := "cd5c7d296f864045704645780019c24b16d6306d59f0f401b4102ddf911c72b0", func := "pelorus/peloruslaw18.FlowLocals", spec := "flowLocals", unfollowed := true, recurses := true, apart := false, narrowed := true }
def FlowLocalsUptoSaid : Prop := flowLocalsUptoRow.holds Try.pinned (OpenSpec.upto flowLocalsSpec)

/-- 'peloruslaw18.FlowCalls', WHERE WHAT IT READS IS OF BULK AT MOST 1048576: true; the input reads as it did. -/
def flowCallsUptoRow : OpenClaim := { program := "ytebgepekllelaaa", sum := "cd5c7d296f864045704645780019c24b16d6306d59f0f401b4102ddf911c72b0", func := "pelorus/peloruslaw18.FlowCalls", spec := "flowCalls", unfollowed := true, recurses := true, apart := false, narrowed := true }
def FlowCallsUptoSaid : Prop := flowCallsUptoRow.holds Try.pinned (OpenSpec.upto flowCallsSpec)

/-- 'peloruslaw18.FlowMemory', WHERE WHAT IT READS IS OF BULK AT MOST 1048576: true; the input reads as it did. -/
def flowMemoryUptoRow : OpenClaim := { program := "ytebgepekllelaaa", sum := "cd5c7d296f864045704645780019c24b16d6306d59f0f401b4102ddf911c72b0", func := "pelorus/peloruslaw18.FlowMemory", spec := "flowMemory", unfollowed := true, recurses := true, apart := false, narrowed := true }
def FlowMemoryUptoSaid : Prop := flowMemoryUptoRow.holds Try.pinned (OpenSpec.upto flowMemorySpec)

/-- 'peloruslaw18.FlowSelects', WHERE WHAT IT READS IS OF BULK AT MOST 1048576: true; the input reads as it did. -/
def flowSelectsUptoRow : OpenClaim := { program := "ytebgepekllelaaa", sum := "cd5c7d296f864045704645780019c24b16d6306d59f0f401b4102ddf911c72b0", func := "pelorus/peloruslaw18.FlowSelects", spec := "flowSelects", unfollowed := true, recurses := true, apart := false, narrowed := true }
def FlowSelectsUptoSaid : Prop := flowSelectsUptoRow.holds Try.pinned (OpenSpec.upto flowSelectsSpec)

/-- 'peloruslaw18.FlowHeights', WHERE WHAT IT READS IS OF BULK AT MOST 1048576: true; the input reads as it did. -/
def flowHeightsUptoRow : OpenClaim := { program := "ytebgepekllelaaa", sum := "cd5c7d296f864045704645780019c24b16d6306d59f0f401b4102ddf911c72b0", func := "pelorus/peloruslaw18.FlowHeights", spec := "flowHeights", unfollowed := true, recurses := true, apart := false, narrowed := true }
def FlowHeightsUptoSaid : Prop := flowHeightsUptoRow.holds Try.pinned (OpenSpec.upto flowHeightsSpec)

end Rows
end Go.Proofs.Ytebgepekllelaaa
