/-
  RunErrors: cases, run (3).
-/
import Derived.Test.YtmbjfpdjfifnmaaGreatDoorRunBase
namespace Go.Proofs.YtmbjfpdjfifnmaaGreatDoor
open Go Vx

noncomputable def rerrB3 (p : Nat) (q : Nat) : Bool := runM 11 [] [.rem 0 6 p, .and 1 1 q] 3 [.int .i64 (.var 0), .int .i64 (.var 1)]
set_option maxRecDepth 100000 in
theorem rerr_1_1 : rerrB3 1 1 = true := by decide +kernel
set_option maxRecDepth 100000 in
theorem rerr_3_1 : rerrB3 3 1 = true := by decide +kernel
set_option maxRecDepth 100000 in
theorem rerr_5_1 : rerrB3 5 1 = true := by decide +kernel
end Go.Proofs.YtmbjfpdjfifnmaaGreatDoor
