/-
  TopSum: the engines' runs (4).
-/
import Derived.Test.YtgccmnnenhncpaaGreatDoorLawTopSumT
namespace Go.Proofs.YtgccmnnenhncpaaGreatDoor
open Go Vx

set_option maxRecDepth 100000 in
theorem tsumG_52_0 : runQ tsumL (tsumG 0 52) = true := by decide +kernel
set_option maxRecDepth 100000 in
theorem tsumG_52_1 : runQ tsumL (tsumG 1 52) = true := by decide +kernel
set_option maxRecDepth 100000 in
theorem tsumH_52_0 : runQ tsumL (tsumH 0 52) = true := by decide +kernel
set_option maxRecDepth 100000 in
theorem tsumH_52_1 : runQ tsumL (tsumH 1 52) = true := by decide +kernel
set_option maxRecDepth 100000 in
theorem tsum_52 : tsumB 52 = true := by decide +kernel
set_option maxRecDepth 100000 in
theorem tsumG_60_0 : runQ tsumL (tsumG 0 60) = true := by decide +kernel
set_option maxRecDepth 100000 in
theorem tsumG_60_1 : runQ tsumL (tsumG 1 60) = true := by decide +kernel
set_option maxRecDepth 100000 in
theorem tsumH_60_0 : runQ tsumL (tsumH 0 60) = true := by decide +kernel
set_option maxRecDepth 100000 in
theorem tsumH_60_1 : runQ tsumL (tsumH 1 60) = true := by decide +kernel
set_option maxRecDepth 100000 in
theorem tsum_60 : tsumB 60 = true := by decide +kernel
end Go.Proofs.YtgccmnnenhncpaaGreatDoor
