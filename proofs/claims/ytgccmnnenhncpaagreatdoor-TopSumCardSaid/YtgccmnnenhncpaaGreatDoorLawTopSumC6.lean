/-
  TopSum: cases, run (6).
-/
import Derived.Test.YtgccmnnenhncpaaGreatDoorLawTopSumT
namespace Go.Proofs.YtgccmnnenhncpaaGreatDoor
open Go Vx

set_option maxRecDepth 100000 in
theorem tsum_6 : tsumB 6 = true := by decide +kernel
set_option maxRecDepth 100000 in
theorem tsum_14 : tsumB 14 = true := by decide +kernel
set_option maxRecDepth 100000 in
theorem tsum_22 : tsumB 22 = true := by decide +kernel
set_option maxRecDepth 100000 in
theorem tsum_30 : tsumB 30 = true := by decide +kernel
set_option maxRecDepth 100000 in
theorem tsum_38 : tsumB 38 = true := by decide +kernel
set_option maxRecDepth 100000 in
theorem tsum_46 : tsumB 46 = true := by decide +kernel
end Go.Proofs.YtgccmnnenhncpaaGreatDoor
