/-
  RunErrors: cases, run (0).
-/
import Derived.Test.YtmbjfpdjfifnmaaGreatDoorRunBase
namespace Go.Proofs.YtmbjfpdjfifnmaaGreatDoor
open Go Vx

noncomputable def rerrB0 (p : Nat) (q : Nat) : Bool := runM 11 [] [.rem 0 6 p, .and 1 1 q] 3 [.int .i64 (.var 0), .int .i64 (.var 1)]
set_option maxRecDepth 100000 in
theorem rerr_0_0 : rerrB0 0 0 = true := by decide +kernel
set_option maxRecDepth 100000 in
theorem rerr_2_0 : rerrB0 2 0 = true := by decide +kernel
set_option maxRecDepth 100000 in
theorem rerr_4_0 : rerrB0 4 0 = true := by decide +kernel
end Go.Proofs.YtmbjfpdjfifnmaaGreatDoor
