/-
  TopSum: the engines' runs (7).
-/
import Derived.Test.YtgccmnnenhncpaaGreatDoorLawTopSumT
namespace Go.Proofs.YtgccmnnenhncpaaGreatDoor
open Go Vx

set_option maxRecDepth 100000 in
theorem tsumG_55_0 : runQ tsumL (tsumG 0 55) = true := by decide +kernel
set_option maxRecDepth 100000 in
theorem tsumG_55_1 : runQ tsumL (tsumG 1 55) = true := by decide +kernel
set_option maxRecDepth 100000 in
theorem tsumH_55_0 : runQ tsumL (tsumH 0 55) = true := by decide +kernel
set_option maxRecDepth 100000 in
theorem tsumH_55_1 : runQ tsumL (tsumH 1 55) = true := by decide +kernel
set_option maxRecDepth 100000 in
theorem tsum_55 : tsumB 55 = true := by decide +kernel
set_option maxRecDepth 100000 in
theorem tsumG_63_0 : runQ tsumL (tsumG 0 63) = true := by decide +kernel
set_option maxRecDepth 100000 in
theorem tsumG_63_1 : runQ tsumL (tsumG 1 63) = true := by decide +kernel
set_option maxRecDepth 100000 in
theorem tsumH_63_0 : runQ tsumL (tsumH 0 63) = true := by decide +kernel
set_option maxRecDepth 100000 in
theorem tsumH_63_1 : runQ tsumL (tsumH 1 63) = true := by decide +kernel
set_option maxRecDepth 100000 in
theorem tsum_63 : tsumB 63 = true := by decide +kernel
end Go.Proofs.YtgccmnnenhncpaaGreatDoor
