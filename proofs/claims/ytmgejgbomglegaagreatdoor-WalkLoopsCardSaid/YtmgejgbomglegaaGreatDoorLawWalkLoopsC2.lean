/-
  WalkLoops: cases, run (2).
-/
import Derived.Test.YtmgejgbomglegaaGreatDoorWalkBase
namespace Go.Proofs.YtmgejgbomglegaaGreatDoor
open Go Vx

noncomputable def wloopsB2 (p : Nat) : Bool := walkM [.and 0 127 p] 4 [.int .i64 (.var 0)]
set_option maxRecDepth 100000 in
theorem wloops_2 : wloopsB2 2 = true := by decide +kernel
set_option maxRecDepth 100000 in
theorem wloops_10 : wloopsB2 10 = true := by decide +kernel
set_option maxRecDepth 100000 in
theorem wloops_18 : wloopsB2 18 = true := by decide +kernel
set_option maxRecDepth 100000 in
theorem wloops_26 : wloopsB2 26 = true := by decide +kernel
set_option maxRecDepth 100000 in
theorem wloops_34 : wloopsB2 34 = true := by decide +kernel
set_option maxRecDepth 100000 in
theorem wloops_42 : wloopsB2 42 = true := by decide +kernel
set_option maxRecDepth 100000 in
theorem wloops_50 : wloopsB2 50 = true := by decide +kernel
set_option maxRecDepth 100000 in
theorem wloops_58 : wloopsB2 58 = true := by decide +kernel
set_option maxRecDepth 100000 in
theorem wloops_66 : wloopsB2 66 = true := by decide +kernel
set_option maxRecDepth 100000 in
theorem wloops_74 : wloopsB2 74 = true := by decide +kernel
set_option maxRecDepth 100000 in
theorem wloops_82 : wloopsB2 82 = true := by decide +kernel
set_option maxRecDepth 100000 in
theorem wloops_90 : wloopsB2 90 = true := by decide +kernel
set_option maxRecDepth 100000 in
theorem wloops_98 : wloopsB2 98 = true := by decide +kernel
set_option maxRecDepth 100000 in
theorem wloops_106 : wloopsB2 106 = true := by decide +kernel
set_option maxRecDepth 100000 in
theorem wloops_114 : wloopsB2 114 = true := by decide +kernel
set_option maxRecDepth 100000 in
theorem wloops_122 : wloopsB2 122 = true := by decide +kernel
end Go.Proofs.YtmgejgbomglegaaGreatDoor
