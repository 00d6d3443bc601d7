/-
  RunErrors: cases, run (1).
-/
import Derived.Test.YtmbjfpdjfifnmaaGreatDoorRunBase
namespace Go.Proofs.YtmbjfpdjfifnmaaGreatDoor
open Go Vx

noncomputable def rerrB1 (p : Nat) (q : Nat) : Bool := runM 11 [] [.rem 0 6 p, .and 1 1 q] 3 [.int .i64 (.var 0), .int .i64 (.var 1)]
set_option maxRecDepth 100000 in
theorem rerr_0_1 : rerrB1 0 1 = true := by decide +kernel
set_option maxRecDepth 100000 in
theorem rerr_2_1 : rerrB1 2 1 = true := by decide +kernel
set_option maxRecDepth 100000 in
theorem rerr_4_1 : rerrB1 4 1 = true := by decide +kernel
end Go.Proofs.YtmbjfpdjfifnmaaGreatDoor
