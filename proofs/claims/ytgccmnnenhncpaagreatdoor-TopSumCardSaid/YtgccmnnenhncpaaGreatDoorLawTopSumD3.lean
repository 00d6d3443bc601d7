/-
  TopSum: the engines' runs (3).
-/
import Derived.Test.YtgccmnnenhncpaaGreatDoorLawTopSumT
namespace Go.Proofs.YtgccmnnenhncpaaGreatDoor
open Go Vx

set_option maxRecDepth 100000 in
theorem tsumG_51_0 : runQ tsumL (tsumG 0 51) = true := by decide +kernel
set_option maxRecDepth 100000 in
theorem tsumG_51_1 : runQ tsumL (tsumG 1 51) = true := by decide +kernel
set_option maxRecDepth 100000 in
theorem tsumH_51_0 : runQ tsumL (tsumH 0 51) = true := by decide +kernel
set_option maxRecDepth 100000 in
theorem tsumH_51_1 : runQ tsumL (tsumH 1 51) = true := by decide +kernel
set_option maxRecDepth 100000 in
theorem tsum_51 : tsumB 51 = true := by decide +kernel
set_option maxRecDepth 100000 in
theorem tsumG_59_0 : runQ tsumL (tsumG 0 59) = true := by decide +kernel
set_option maxRecDepth 100000 in
theorem tsumG_59_1 : runQ tsumL (tsumG 1 59) = true := by decide +kernel
set_option maxRecDepth 100000 in
theorem tsumH_59_0 : runQ tsumL (tsumH 0 59) = true := by decide +kernel
set_option maxRecDepth 100000 in
theorem tsumH_59_1 : runQ tsumL (tsumH 1 59) = true := by decide +kernel
set_option maxRecDepth 100000 in
theorem tsum_59 : tsumB 59 = true := by decide +kernel
end Go.Proofs.YtgccmnnenhncpaaGreatDoor
