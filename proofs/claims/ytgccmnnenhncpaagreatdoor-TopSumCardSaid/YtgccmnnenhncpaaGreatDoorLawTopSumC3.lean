/-
  TopSum: cases, run (3).
-/
import Derived.Test.YtgccmnnenhncpaaGreatDoorLawTopSumT
namespace Go.Proofs.YtgccmnnenhncpaaGreatDoor
open Go Vx

set_option maxRecDepth 100000 in
theorem tsum_3 : tsumB 3 = true := by decide +kernel
set_option maxRecDepth 100000 in
theorem tsum_11 : tsumB 11 = true := by decide +kernel
set_option maxRecDepth 100000 in
theorem tsum_19 : tsumB 19 = true := by decide +kernel
set_option maxRecDepth 100000 in
theorem tsum_27 : tsumB 27 = true := by decide +kernel
set_option maxRecDepth 100000 in
theorem tsum_35 : tsumB 35 = true := by decide +kernel
set_option maxRecDepth 100000 in
theorem tsum_43 : tsumB 43 = true := by decide +kernel
end Go.Proofs.YtgccmnnenhncpaaGreatDoor
