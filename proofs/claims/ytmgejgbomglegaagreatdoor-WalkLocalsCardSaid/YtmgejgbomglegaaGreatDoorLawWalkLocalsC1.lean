/-
  WalkLocals: cases, run (1).
-/
import Derived.Test.YtmgejgbomglegaaGreatDoorWalkBase
namespace Go.Proofs.YtmgejgbomglegaaGreatDoor
open Go Vx

noncomputable def wlocalsB1 (r : Nat) : Bool := walkM [.and 2 7 r] 5 [.int .i64 (.var 0), .int .i64 (.var 1), .int .i64 (.var 2)]
set_option maxRecDepth 100000 in
theorem wlocals_1 : wlocalsB1 1 = true := by decide +kernel
set_option maxRecDepth 100000 in
theorem wlocals_3 : wlocalsB1 3 = true := by decide +kernel
set_option maxRecDepth 100000 in
theorem wlocals_5 : wlocalsB1 5 = true := by decide +kernel
set_option maxRecDepth 100000 in
theorem wlocals_7 : wlocalsB1 7 = true := by decide +kernel
end Go.Proofs.YtmgejgbomglegaaGreatDoor
