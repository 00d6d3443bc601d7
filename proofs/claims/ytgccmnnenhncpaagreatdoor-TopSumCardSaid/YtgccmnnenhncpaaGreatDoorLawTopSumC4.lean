/-
  TopSum: cases, run (4).
-/
import Derived.Test.YtgccmnnenhncpaaGreatDoorLawTopSumT
namespace Go.Proofs.YtgccmnnenhncpaaGreatDoor
open Go Vx

set_option maxRecDepth 100000 in
theorem tsum_4 : tsumB 4 = true := by decide +kernel
set_option maxRecDepth 100000 in
theorem tsum_12 : tsumB 12 = true := by decide +kernel
set_option maxRecDepth 100000 in
theorem tsum_20 : tsumB 20 = true := by decide +kernel
set_option maxRecDepth 100000 in
theorem tsum_28 : tsumB 28 = true := by decide +kernel
set_option maxRecDepth 100000 in
theorem tsum_36 : tsumB 36 = true := by decide +kernel
set_option maxRecDepth 100000 in
theorem tsum_44 : tsumB 44 = true := by decide +kernel
end Go.Proofs.YtgccmnnenhncpaaGreatDoor
