/-
  TopSum: cases, run (0).
-/
import Derived.Test.YtgccmnnenhncpaaGreatDoorLawTopSumT
namespace Go.Proofs.YtgccmnnenhncpaaGreatDoor
open Go Vx

set_option maxRecDepth 100000 in
theorem tsum_0 : tsumB 0 = true := by decide +kernel
set_option maxRecDepth 100000 in
theorem tsum_8 : tsumB 8 = true := by decide +kernel
set_option maxRecDepth 100000 in
theorem tsum_16 : tsumB 16 = true := by decide +kernel
set_option maxRecDepth 100000 in
theorem tsum_24 : tsumB 24 = true := by decide +kernel
set_option maxRecDepth 100000 in
theorem tsum_32 : tsumB 32 = true := by decide +kernel
set_option maxRecDepth 100000 in
theorem tsum_40 : tsumB 40 = true := by decide +kernel
end Go.Proofs.YtgccmnnenhncpaaGreatDoor
