/-
  WalkLoops: cases, run (0).
-/
import Derived.Test.YtmgejgbomglegaaGreatDoorWalkBase
namespace Go.Proofs.YtmgejgbomglegaaGreatDoor
open Go Vx

noncomputable def wloopsB0 (p : Nat) : Bool := walkM [.and 0 127 p] 4 [.int .i64 (.var 0)]
set_option maxRecDepth 100000 in
theorem wloops_0 : wloopsB0 0 = true := by decide +kernel
set_option maxRecDepth 100000 in
theorem wloops_8 : wloopsB0 8 = true := by decide +kernel
set_option maxRecDepth 100000 in
theorem wloops_16 : wloopsB0 16 = true := by decide +kernel
set_option maxRecDepth 100000 in
theorem wloops_24 : wloopsB0 24 = true := by decide +kernel
set_option maxRecDepth 100000 in
theorem wloops_32 : wloopsB0 32 = true := by decide +kernel
set_option maxRecDepth 100000 in
theorem wloops_40 : wloopsB0 40 = true := by decide +kernel
set_option maxRecDepth 100000 in
theorem wloops_48 : wloopsB0 48 = true := by decide +kernel
set_option maxRecDepth 100000 in
theorem wloops_56 : wloopsB0 56 = true := by decide +kernel
set_option maxRecDepth 100000 in
theorem wloops_64 : wloopsB0 64 = true := by decide +kernel
set_option maxRecDepth 100000 in
theorem wloops_72 : wloopsB0 72 = true := by decide +kernel
set_option maxRecDepth 100000 in
theorem wloops_80 : wloopsB0 80 = true := by decide +kernel
set_option maxRecDepth 100000 in
theorem wloops_88 : wloopsB0 88 = true := by decide +kernel
set_option maxRecDepth 100000 in
theorem wloops_96 : wloopsB0 96 = true := by decide +kernel
set_option maxRecDepth 100000 in
theorem wloops_104 : wloopsB0 104 = true := by decide +kernel
set_option maxRecDepth 100000 in
theorem wloops_112 : wloopsB0 112 = true := by decide +kernel
set_option maxRecDepth 100000 in
theorem wloops_120 : wloopsB0 120 = true := by decide +kernel
end Go.Proofs.YtmgejgbomglegaaGreatDoor
