/-
  WalkLoops: cases, run (3).
-/
import Derived.Test.YtmgejgbomglegaaGreatDoorWalkBase
namespace Go.Proofs.YtmgejgbomglegaaGreatDoor
open Go Vx

noncomputable def wloopsB3 (p : Nat) : Bool := walkM [.and 0 127 p] 4 [.int .i64 (.var 0)]
set_option maxRecDepth 100000 in
theorem wloops_3 : wloopsB3 3 = true := by decide +kernel
set_option maxRecDepth 100000 in
theorem wloops_11 : wloopsB3 11 = true := by decide +kernel
set_option maxRecDepth 100000 in
theorem wloops_19 : wloopsB3 19 = true := by decide +kernel
set_option maxRecDepth 100000 in
theorem wloops_27 : wloopsB3 27 = true := by decide +kernel
set_option maxRecDepth 100000 in
theorem wloops_35 : wloopsB3 35 = true := by decide +kernel
set_option maxRecDepth 100000 in
theorem wloops_43 : wloopsB3 43 = true := by decide +kernel
set_option maxRecDepth 100000 in
theorem wloops_51 : wloopsB3 51 = true := by decide +kernel
set_option maxRecDepth 100000 in
theorem wloops_59 : wloopsB3 59 = true := by decide +kernel
set_option maxRecDepth 100000 in
theorem wloops_67 : wloopsB3 67 = true := by decide +kernel
set_option maxRecDepth 100000 in
theorem wloops_75 : wloopsB3 75 = true := by decide +kernel
set_option maxRecDepth 100000 in
theorem wloops_83 : wloopsB3 83 = true := by decide +kernel
set_option maxRecDepth 100000 in
theorem wloops_91 : wloopsB3 91 = true := by decide +kernel
set_option maxRecDepth 100000 in
theorem wloops_99 : wloopsB3 99 = true := by decide +kernel
set_option maxRecDepth 100000 in
theorem wloops_107 : wloopsB3 107 = true := by decide +kernel
set_option maxRecDepth 100000 in
theorem wloops_115 : wloopsB3 115 = true := by decide +kernel
set_option maxRecDepth 100000 in
theorem wloops_123 : wloopsB3 123 = true := by decide +kernel
end Go.Proofs.YtmgejgbomglegaaGreatDoor
