/-
  TopSum: cases, run (1).
-/
import Derived.Test.YtgccmnnenhncpaaGreatDoorLawTopSumT
namespace Go.Proofs.YtgccmnnenhncpaaGreatDoor
open Go Vx

set_option maxRecDepth 100000 in
theorem tsum_1 : tsumB 1 = true := by decide +kernel
set_option maxRecDepth 100000 in
theorem tsum_9 : tsumB 9 = true := by decide +kernel
set_option maxRecDepth 100000 in
theorem tsum_17 : tsumB 17 = true := by decide +kernel
set_option maxRecDepth 100000 in
theorem tsum_25 : tsumB 25 = true := by decide +kernel
set_option maxRecDepth 100000 in
theorem tsum_33 : tsumB 33 = true := by decide +kernel
set_option maxRecDepth 100000 in
theorem tsum_41 : tsumB 41 = true := by decide +kernel
end Go.Proofs.YtgccmnnenhncpaaGreatDoor
