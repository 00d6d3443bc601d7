/-
  TopSum: the engines' runs (6).
-/
import Derived.Test.YtgccmnnenhncpaaGreatDoorLawTopSumT
namespace Go.Proofs.YtgccmnnenhncpaaGreatDoor
open Go Vx

set_option maxRecDepth 100000 in
theorem tsumG_54_0 : runQ tsumL (tsumG 0 54) = true := by decide +kernel
set_option maxRecDepth 100000 in
theorem tsumG_54_1 : runQ tsumL (tsumG 1 54) = true := by decide +kernel
set_option maxRecDepth 100000 in
theorem tsumH_54_0 : runQ tsumL (tsumH 0 54) = true := by decide +kernel
set_option maxRecDepth 100000 in
theorem tsumH_54_1 : runQ tsumL (tsumH 1 54) = true := by decide +kernel
set_option maxRecDepth 100000 in
theorem tsum_54 : tsumB 54 = true := by decide +kernel
set_option maxRecDepth 100000 in
theorem tsumG_62_0 : runQ tsumL (tsumG 0 62) = true := by decide +kernel
set_option maxRecDepth 100000 in
theorem tsumG_62_1 : runQ tsumL (tsumG 1 62) = true := by decide +kernel
set_option maxRecDepth 100000 in
theorem tsumH_62_0 : runQ tsumL (tsumH 0 62) = true := by decide +kernel
set_option maxRecDepth 100000 in
theorem tsumH_62_1 : runQ tsumL (tsumH 1 62) = true := by decide +kernel
set_option maxRecDepth 100000 in
theorem tsum_62 : tsumB 62 = true := by decide +kernel
end Go.Proofs.YtgccmnnenhncpaaGreatDoor
