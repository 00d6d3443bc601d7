/-
  WalkLoops: cases, run (5).
-/
import Derived.Test.YtmgejgbomglegaaGreatDoorWalkBase
namespace Go.Proofs.YtmgejgbomglegaaGreatDoor
open Go Vx

noncomputable def wloopsB5 (p : Nat) : Bool := walkM [.and 0 127 p] 4 [.int .i64 (.var 0)]
set_option maxRecDepth 100000 in
theorem wloops_5 : wloopsB5 5 = true := by decide +kernel
set_option maxRecDepth 100000 in
theorem wloops_13 : wloopsB5 13 = true := by decide +kernel
set_option maxRecDepth 100000 in
theorem wloops_21 : wloopsB5 21 = true := by decide +kernel
set_option maxRecDepth 100000 in
theorem wloops_29 : wloopsB5 29 = true := by decide +kernel
set_option maxRecDepth 100000 in
theorem wloops_37 : wloopsB5 37 = true := by decide +kernel
set_option maxRecDepth 100000 in
theorem wloops_45 : wloopsB5 45 = true := by decide +kernel
set_option maxRecDepth 100000 in
theorem wloops_53 : wloopsB5 53 = true := by decide +kernel
set_option maxRecDepth 100000 in
theorem wloops_61 : wloopsB5 61 = true := by decide +kernel
set_option maxRecDepth 100000 in
theorem wloops_69 : wloopsB5 69 = true := by decide +kernel
set_option maxRecDepth 100000 in
theorem wloops_77 : wloopsB5 77 = true := by decide +kernel
set_option maxRecDepth 100000 in
theorem wloops_85 : wloopsB5 85 = true := by decide +kernel
set_option maxRecDepth 100000 in
theorem wloops_93 : wloopsB5 93 = true := by decide +kernel
set_option maxRecDepth 100000 in
theorem wloops_101 : wloopsB5 101 = true := by decide +kernel
set_option maxRecDepth 100000 in
theorem wloops_109 : wloopsB5 109 = true := by decide +kernel
set_option maxRecDepth 100000 in
theorem wloops_117 : wloopsB5 117 = true := by decide +kernel
set_option maxRecDepth 100000 in
theorem wloops_125 : wloopsB5 125 = true := by decide +kernel
end Go.Proofs.YtmgejgbomglegaaGreatDoor
