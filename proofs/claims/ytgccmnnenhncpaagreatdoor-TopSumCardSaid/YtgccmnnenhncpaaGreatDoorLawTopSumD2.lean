/-
  TopSum: the engines' runs (2).
-/
import Derived.Test.YtgccmnnenhncpaaGreatDoorLawTopSumT
namespace Go.Proofs.YtgccmnnenhncpaaGreatDoor
open Go Vx

set_option maxRecDepth 100000 in
theorem tsumG_50_0 : runQ tsumL (tsumG 0 50) = true := by decide +kernel
set_option maxRecDepth 100000 in
theorem tsumG_50_1 : runQ tsumL (tsumG 1 50) = true := by decide +kernel
set_option maxRecDepth 100000 in
theorem tsumH_50_0 : runQ tsumL (tsumH 0 50) = true := by decide +kernel
set_option maxRecDepth 100000 in
theorem tsumH_50_1 : runQ tsumL (tsumH 1 50) = true := by decide +kernel
set_option maxRecDepth 100000 in
theorem tsum_50 : tsumB 50 = true := by decide +kernel
set_option maxRecDepth 100000 in
theorem tsumG_58_0 : runQ tsumL (tsumG 0 58) = true := by decide +kernel
set_option maxRecDepth 100000 in
theorem tsumG_58_1 : runQ tsumL (tsumG 1 58) = true := by decide +kernel
set_option maxRecDepth 100000 in
theorem tsumH_58_0 : runQ tsumL (tsumH 0 58) = true := by decide +kernel
set_option maxRecDepth 100000 in
theorem tsumH_58_1 : runQ tsumL (tsumH 1 58) = true := by decide +kernel
set_option maxRecDepth 100000 in
theorem tsum_58 : tsumB 58 = true := by decide +kernel
end Go.Proofs.YtgccmnnenhncpaaGreatDoor
