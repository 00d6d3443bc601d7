/-
  WalkGrow: cases, run (0).
-/
import Derived.Test.YtmgejgbomglegaaGreatDoorWalkBase
namespace Go.Proofs.YtmgejgbomglegaaGreatDoor
open Go Vx

noncomputable def wgrowB0 (p : Nat) : Bool := walkM [.and 0 3 p] 8 [.int .i64 (.var 0)]
set_option maxRecDepth 100000 in
theorem wgrow_0 : wgrowB0 0 = true := by decide +kernel
set_option maxRecDepth 100000 in
theorem wgrow_1 : wgrowB0 1 = true := by decide +kernel
set_option maxRecDepth 100000 in
theorem wgrow_2 : wgrowB0 2 = true := by decide +kernel
set_option maxRecDepth 100000 in
theorem wgrow_3 : wgrowB0 3 = true := by decide +kernel
end Go.Proofs.YtmgejgbomglegaaGreatDoor
