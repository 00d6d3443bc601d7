/-
  WalkLocals: cases, run (0).
-/
import Derived.Test.YtmgejgbomglegaaGreatDoorWalkBase
namespace Go.Proofs.YtmgejgbomglegaaGreatDoor
open Go Vx

noncomputable def wlocalsB0 (r : Nat) : Bool := walkM [.and 2 7 r] 5 [.int .i64 (.var 0), .int .i64 (.var 1), .int .i64 (.var 2)]
set_option maxRecDepth 100000 in
theorem wlocals_0 : wlocalsB0 0 = true := by decide +kernel
set_option maxRecDepth 100000 in
theorem wlocals_2 : wlocalsB0 2 = true := by decide +kernel
set_option maxRecDepth 100000 in
theorem wlocals_4 : wlocalsB0 4 = true := by decide +kernel
set_option maxRecDepth 100000 in
theorem wlocals_6 : wlocalsB0 6 = true := by decide +kernel
end Go.Proofs.YtmgejgbomglegaaGreatDoor
