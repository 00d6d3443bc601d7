/-
  TopSum: the engines' runs (0).
-/
import Derived.Test.YtgccmnnenhncpaaGreatDoorLawTopSumT
namespace Go.Proofs.YtgccmnnenhncpaaGreatDoor
open Go Vx

set_option maxRecDepth 100000 in
theorem tsumG_48_0 : runQ tsumL (tsumG 0 48) = true := by decide +kernel
set_option maxRecDepth 100000 in
theorem tsumG_48_1 : runQ tsumL (tsumG 1 48) = true := by decide +kernel
set_option maxRecDepth 100000 in
theorem tsumH_48_0 : runQ tsumL (tsumH 0 48) = true := by decide +kernel
set_option maxRecDepth 100000 in
theorem tsumH_48_1 : runQ tsumL (tsumH 1 48) = true := by decide +kernel
set_option maxRecDepth 100000 in
theorem tsum_48 : tsumB 48 = true := by decide +kernel
set_option maxRecDepth 100000 in
theorem tsumG_56_0 : runQ tsumL (tsumG 0 56) = true := by decide +kernel
set_option maxRecDepth 100000 in
theorem tsumG_56_1 : runQ tsumL (tsumG 1 56) = true := by decide +kernel
set_option maxRecDepth 100000 in
theorem tsumH_56_0 : runQ tsumL (tsumH 0 56) = true := by decide +kernel
set_option maxRecDepth 100000 in
theorem tsumH_56_1 : runQ tsumL (tsumH 1 56) = true := by decide +kernel
set_option maxRecDepth 100000 in
theorem tsum_56 : tsumB 56 = true := by decide +kernel
end Go.Proofs.YtgccmnnenhncpaaGreatDoor
