/-
  TopSum: cases, run (2).
-/
import Derived.Test.YtgccmnnenhncpaaGreatDoorLawTopSumT
namespace Go.Proofs.YtgccmnnenhncpaaGreatDoor
open Go Vx

set_option maxRecDepth 100000 in
theorem tsum_2 : tsumB 2 = true := by decide +kernel
set_option maxRecDepth 100000 in
theorem tsum_10 : tsumB 10 = true := by decide +kernel
set_option maxRecDepth 100000 in
theorem tsum_18 : tsumB 18 = true := by decide +kernel
set_option maxRecDepth 100000 in
theorem tsum_26 : tsumB 26 = true := by decide +kernel
set_option maxRecDepth 100000 in
theorem tsum_34 : tsumB 34 = true := by decide +kernel
set_option maxRecDepth 100000 in
theorem tsum_42 : tsumB 42 = true := by decide +kernel
end Go.Proofs.YtgccmnnenhncpaaGreatDoor
