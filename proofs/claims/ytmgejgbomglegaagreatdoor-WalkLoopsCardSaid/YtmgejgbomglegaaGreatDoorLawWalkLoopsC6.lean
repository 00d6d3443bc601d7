/-
  WalkLoops: cases, run (6).
-/
import Derived.Test.YtmgejgbomglegaaGreatDoorWalkBase
namespace Go.Proofs.YtmgejgbomglegaaGreatDoor
open Go Vx

noncomputable def wloopsB6 (p : Nat) : Bool := walkM [.and 0 127 p] 4 [.int .i64 (.var 0)]
set_option maxRecDepth 100000 in
theorem wloops_6 : wloopsB6 6 = true := by decide +kernel
set_option maxRecDepth 100000 in
theorem wloops_14 : wloopsB6 14 = true := by decide +kernel
set_option maxRecDepth 100000 in
theorem wloops_22 : wloopsB6 22 = true := by decide +kernel
set_option maxRecDepth 100000 in
theorem wloops_30 : wloopsB6 30 = true := by decide +kernel
set_option maxRecDepth 100000 in
theorem wloops_38 : wloopsB6 38 = true := by decide +kernel
set_option maxRecDepth 100000 in
theorem wloops_46 : wloopsB6 46 = true := by decide +kernel
set_option maxRecDepth 100000 in
theorem wloops_54 : wloopsB6 54 = true := by decide +kernel
set_option maxRecDepth 100000 in
theorem wloops_62 : wloopsB6 62 = true := by decide +kernel
set_option maxRecDepth 100000 in
theorem wloops_70 : wloopsB6 70 = true := by decide +kernel
set_option maxRecDepth 100000 in
theorem wloops_78 : wloopsB6 78 = true := by decide +kernel
set_option maxRecDepth 100000 in
theorem wloops_86 : wloopsB6 86 = true := by decide +kernel
set_option maxRecDepth 100000 in
theorem wloops_94 : wloopsB6 94 = true := by decide +kernel
set_option maxRecDepth 100000 in
theorem wloops_102 : wloopsB6 102 = true := by decide +kernel
set_option maxRecDepth 100000 in
theorem wloops_110 : wloopsB6 110 = true := by decide +kernel
set_option maxRecDepth 100000 in
theorem wloops_118 : wloopsB6 118 = true := by decide +kernel
set_option maxRecDepth 100000 in
theorem wloops_126 : wloopsB6 126 = true := by decide +kernel
end Go.Proofs.YtmgejgbomglegaaGreatDoor
