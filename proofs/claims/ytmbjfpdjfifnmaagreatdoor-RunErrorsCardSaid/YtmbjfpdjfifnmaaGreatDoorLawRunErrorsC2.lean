/-
  RunErrors: cases, run (2).
-/
import Derived.Test.YtmbjfpdjfifnmaaGreatDoorRunBase
namespace Go.Proofs.YtmbjfpdjfifnmaaGreatDoor
open Go Vx

noncomputable def rerrB2 (p : Nat) (q : Nat) : Bool := runM 11 [] [.rem 0 6 p, .and 1 1 q] 3 [.int .i64 (.var 0), .int .i64 (.var 1)]
set_option maxRecDepth 100000 in
theorem rerr_1_0 : rerrB2 1 0 = true := by decide +kernel
set_option maxRecDepth 100000 in
theorem rerr_3_0 : rerrB2 3 0 = true := by decide +kernel
set_option maxRecDepth 100000 in
theorem rerr_5_0 : rerrB2 5 0 = true := by decide +kernel
end Go.Proofs.YtmbjfpdjfifnmaaGreatDoor
