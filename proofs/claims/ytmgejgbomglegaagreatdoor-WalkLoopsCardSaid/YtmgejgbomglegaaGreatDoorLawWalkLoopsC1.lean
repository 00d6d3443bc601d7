/-
  WalkLoops: cases, run (1).
-/
import Derived.Test.YtmgejgbomglegaaGreatDoorWalkBase
namespace Go.Proofs.YtmgejgbomglegaaGreatDoor
open Go Vx

noncomputable def wloopsB1 (p : Nat) : Bool := walkM [.and 0 127 p] 4 [.int .i64 (.var 0)]
set_option maxRecDepth 100000 in
theorem wloops_1 : wloopsB1 1 = true := by decide +kernel
set_option maxRecDepth 100000 in
theorem wloops_9 : wloopsB1 9 = true := by decide +kernel
set_option maxRecDepth 100000 in
theorem wloops_17 : wloopsB1 17 = true := by decide +kernel
set_option maxRecDepth 100000 in
theorem wloops_25 : wloopsB1 25 = true := by decide +kernel
set_option maxRecDepth 100000 in
theorem wloops_33 : wloopsB1 33 = true := by decide +kernel
set_option maxRecDepth 100000 in
theorem wloops_41 : wloopsB1 41 = true := by decide +kernel
set_option maxRecDepth 100000 in
theorem wloops_49 : wloopsB1 49 = true := by decide +kernel
set_option maxRecDepth 100000 in
theorem wloops_57 : wloopsB1 57 = true := by decide +kernel
set_option maxRecDepth 100000 in
theorem wloops_65 : wloopsB1 65 = true := by decide +kernel
set_option maxRecDepth 100000 in
theorem wloops_73 : wloopsB1 73 = true := by decide +kernel
set_option maxRecDepth 100000 in
theorem wloops_81 : wloopsB1 81 = true := by decide +kernel
set_option maxRecDepth 100000 in
theorem wloops_89 : wloopsB1 89 = true := by decide +kernel
set_option maxRecDepth 100000 in
theorem wloops_97 : wloopsB1 97 = true := by decide +kernel
set_option maxRecDepth 100000 in
theorem wloops_105 : wloopsB1 105 = true := by decide +kernel
set_option maxRecDepth 100000 in
theorem wloops_113 : wloopsB1 113 = true := by decide +kernel
set_option maxRecDepth 100000 in
theorem wloops_121 : wloopsB1 121 = true := by decide +kernel
end Go.Proofs.YtmgejgbomglegaaGreatDoor
