/-
  WalkLoops: cases, run (4).
-/
import Derived.Test.YtmgejgbomglegaaGreatDoorWalkBase
namespace Go.Proofs.YtmgejgbomglegaaGreatDoor
open Go Vx

noncomputable def wloopsB4 (p : Nat) : Bool := walkM [.and 0 127 p] 4 [.int .i64 (.var 0)]
set_option maxRecDepth 100000 in
theorem wloops_4 : wloopsB4 4 = true := by decide +kernel
set_option maxRecDepth 100000 in
theorem wloops_12 : wloopsB4 12 = true := by decide +kernel
set_option maxRecDepth 100000 in
theorem wloops_20 : wloopsB4 20 = true := by decide +kernel
set_option maxRecDepth 100000 in
theorem wloops_28 : wloopsB4 28 = true := by decide +kernel
set_option maxRecDepth 100000 in
theorem wloops_36 : wloopsB4 36 = true := by decide +kernel
set_option maxRecDepth 100000 in
theorem wloops_44 : wloopsB4 44 = true := by decide +kernel
set_option maxRecDepth 100000 in
theorem wloops_52 : wloopsB4 52 = true := by decide +kernel
set_option maxRecDepth 100000 in
theorem wloops_60 : wloopsB4 60 = true := by decide +kernel
set_option maxRecDepth 100000 in
theorem wloops_68 : wloopsB4 68 = true := by decide +kernel
set_option maxRecDepth 100000 in
theorem wloops_76 : wloopsB4 76 = true := by decide +kernel
set_option maxRecDepth 100000 in
theorem wloops_84 : wloopsB4 84 = true := by decide +kernel
set_option maxRecDepth 100000 in
theorem wloops_92 : wloopsB4 92 = true := by decide +kernel
set_option maxRecDepth 100000 in
theorem wloops_100 : wloopsB4 100 = true := by decide +kernel
set_option maxRecDepth 100000 in
theorem wloops_108 : wloopsB4 108 = true := by decide +kernel
set_option maxRecDepth 100000 in
theorem wloops_116 : wloopsB4 116 = true := by decide +kernel
set_option maxRecDepth 100000 in
theorem wloops_124 : wloopsB4 124 = true := by decide +kernel
end Go.Proofs.YtmgejgbomglegaaGreatDoor
