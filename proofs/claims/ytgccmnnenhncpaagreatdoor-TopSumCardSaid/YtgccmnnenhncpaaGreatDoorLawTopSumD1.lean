/-
  TopSum: the engines' runs (1).
-/
import Derived.Test.YtgccmnnenhncpaaGreatDoorLawTopSumT
namespace Go.Proofs.YtgccmnnenhncpaaGreatDoor
open Go Vx

set_option maxRecDepth 100000 in
theorem tsumG_49_0 : runQ tsumL (tsumG 0 49) = true := by decide +kernel
set_option maxRecDepth 100000 in
theorem tsumG_49_1 : runQ tsumL (tsumG 1 49) = true := by decide +kernel
set_option maxRecDepth 100000 in
theorem tsumH_49_0 : runQ tsumL (tsumH 0 49) = true := by decide +kernel
set_option maxRecDepth 100000 in
theorem tsumH_49_1 : runQ tsumL (tsumH 1 49) = true := by decide +kernel
set_option maxRecDepth 100000 in
theorem tsum_49 : tsumB 49 = true := by decide +kernel
set_option maxRecDepth 100000 in
theorem tsumG_57_0 : runQ tsumL (tsumG 0 57) = true := by decide +kernel
set_option maxRecDepth 100000 in
theorem tsumG_57_1 : runQ tsumL (tsumG 1 57) = true := by decide +kernel
set_option maxRecDepth 100000 in
theorem tsumH_57_0 : runQ tsumL (tsumH 0 57) = true := by decide +kernel
set_option maxRecDepth 100000 in
theorem tsumH_57_1 : runQ tsumL (tsumH 1 57) = true := by decide +kernel
set_option maxRecDepth 100000 in
theorem tsum_57 : tsumB 57 = true := by decide +kernel
end Go.Proofs.YtgccmnnenhncpaaGreatDoor
