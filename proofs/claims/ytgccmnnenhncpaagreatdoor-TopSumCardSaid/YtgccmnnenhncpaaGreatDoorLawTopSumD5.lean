/-
  TopSum: the engines' runs (5).
-/
import Derived.Test.YtgccmnnenhncpaaGreatDoorLawTopSumT
namespace Go.Proofs.YtgccmnnenhncpaaGreatDoor
open Go Vx

set_option maxRecDepth 100000 in
theorem tsumG_53_0 : runQ tsumL (tsumG 0 53) = true := by decide +kernel
set_option maxRecDepth 100000 in
theorem tsumG_53_1 : runQ tsumL (tsumG 1 53) = true := by decide +kernel
set_option maxRecDepth 100000 in
theorem tsumH_53_0 : runQ tsumL (tsumH 0 53) = true := by decide +kernel
set_option maxRecDepth 100000 in
theorem tsumH_53_1 : runQ tsumL (tsumH 1 53) = true := by decide +kernel
set_option maxRecDepth 100000 in
theorem tsum_53 : tsumB 53 = true := by decide +kernel
set_option maxRecDepth 100000 in
theorem tsumG_61_0 : runQ tsumL (tsumG 0 61) = true := by decide +kernel
set_option maxRecDepth 100000 in
theorem tsumG_61_1 : runQ tsumL (tsumG 1 61) = true := by decide +kernel
set_option maxRecDepth 100000 in
theorem tsumH_61_0 : runQ tsumL (tsumH 0 61) = true := by decide +kernel
set_option maxRecDepth 100000 in
theorem tsumH_61_1 : runQ tsumL (tsumH 1 61) = true := by decide +kernel
set_option maxRecDepth 100000 in
theorem tsum_61 : tsumB 61 = true := by decide +kernel
end Go.Proofs.YtgccmnnenhncpaaGreatDoor
