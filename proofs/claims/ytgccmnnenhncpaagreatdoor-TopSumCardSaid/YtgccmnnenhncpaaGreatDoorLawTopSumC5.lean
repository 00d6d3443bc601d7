/-
  TopSum: cases, run (5).
-/
import Derived.Test.YtgccmnnenhncpaaGreatDoorLawTopSumT
namespace Go.Proofs.YtgccmnnenhncpaaGreatDoor
open Go Vx

set_option maxRecDepth 100000 in
theorem tsum_5 : tsumB 5 = true := by decide +kernel
set_option maxRecDepth 100000 in
theorem tsum_13 : tsumB 13 = true := by decide +kernel
set_option maxRecDepth 100000 in
theorem tsum_21 : tsumB 21 = true := by decide +kernel
set_option maxRecDepth 100000 in
theorem tsum_29 : tsumB 29 = true := by decide +kernel
set_option maxRecDepth 100000 in
theorem tsum_37 : tsumB 37 = true := by decide +kernel
set_option maxRecDepth 100000 in
theorem tsum_45 : tsumB 45 = true := by decide +kernel
end Go.Proofs.YtgccmnnenhncpaaGreatDoor
