/-
  TopSum: cases, run (7).
-/
import Derived.Test.YtgccmnnenhncpaaGreatDoorLawTopSumT
namespace Go.Proofs.YtgccmnnenhncpaaGreatDoor
open Go Vx

set_option maxRecDepth 100000 in
theorem tsum_7 : tsumB 7 = true := by decide +kernel
set_option maxRecDepth 100000 in
theorem tsum_15 : tsumB 15 = true := by decide +kernel
set_option maxRecDepth 100000 in
theorem tsum_23 : tsumB 23 = true := by decide +kernel
set_option maxRecDepth 100000 in
theorem tsum_31 : tsumB 31 = true := by decide +kernel
set_option maxRecDepth 100000 in
theorem tsum_39 : tsumB 39 = true := by decide +kernel
set_option maxRecDepth 100000 in
theorem tsum_47 : tsumB 47 = true := by decide +kernel
end Go.Proofs.YtgccmnnenhncpaaGreatDoor
