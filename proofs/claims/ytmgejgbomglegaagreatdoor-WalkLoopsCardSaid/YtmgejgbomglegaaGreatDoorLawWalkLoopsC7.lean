/-
  WalkLoops: cases, run (7).
-/
import Derived.Test.YtmgejgbomglegaaGreatDoorWalkBase
namespace Go.Proofs.YtmgejgbomglegaaGreatDoor
open Go Vx

noncomputable def wloopsB7 (p : Nat) : Bool := walkM [.and 0 127 p] 4 [.int .i64 (.var 0)]
set_option maxRecDepth 100000 in
theorem wloops_7 : wloopsB7 7 = true := by decide +kernel
set_option maxRecDepth 100000 in
theorem wloops_15 : wloopsB7 15 = true := by decide +kernel
set_option maxRecDepth 100000 in
theorem wloops_23 : wloopsB7 23 = true := by decide +kernel
set_option maxRecDepth 100000 in
theorem wloops_31 : wloopsB7 31 = true := by decide +kernel
set_option maxRecDepth 100000 in
theorem wloops_39 : wloopsB7 39 = true := by decide +kernel
set_option maxRecDepth 100000 in
theorem wloops_47 : wloopsB7 47 = true := by decide +kernel
set_option maxRecDepth 100000 in
theorem wloops_55 : wloopsB7 55 = true := by decide +kernel
set_option maxRecDepth 100000 in
theorem wloops_63 : wloopsB7 63 = true := by decide +kernel
set_option maxRecDepth 100000 in
theorem wloops_71 : wloopsB7 71 = true := by decide +kernel
set_option maxRecDepth 100000 in
theorem wloops_79 : wloopsB7 79 = true := by decide +kernel
set_option maxRecDepth 100000 in
theorem wloops_87 : wloopsB7 87 = true := by decide +kernel
set_option maxRecDepth 100000 in
theorem wloops_95 : wloopsB7 95 = true := by decide +kernel
set_option maxRecDepth 100000 in
theorem wloops_103 : wloopsB7 103 = true := by decide +kernel
set_option maxRecDepth 100000 in
theorem wloops_111 : wloopsB7 111 = true := by decide +kernel
set_option maxRecDepth 100000 in
theorem wloops_119 : wloopsB7 119 = true := by decide +kernel
set_option maxRecDepth 100000 in
theorem wloops_127 : wloopsB7 127 = true := by decide +kernel
end Go.Proofs.YtmgejgbomglegaaGreatDoor
