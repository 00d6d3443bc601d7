/-
  ValidStarts: the cases whose last number is 0, run.
-/
import Derived.Test.YtbfbiggmckbenaaGreatDoorValBase
namespace Go.Proofs.YtbfbiggmckbenaaGreatDoor
open Go Vx

noncomputable def startsB0 (p : Nat) (q : Nat) (r : Nat) : Bool := valM [.and 0 3 p, .and 1 1 q, .and 2 1 r] [[]] 5 [.int .i64 (.var 0), .int .i64 (.var 1), .int .i64 (.var 2)]
set_option maxRecDepth 100000 in
theorem starts0_0_0 : startsB0 0 0 0 = true := by decide +kernel
set_option maxRecDepth 100000 in
theorem starts0_0_1 : startsB0 0 1 0 = true := by decide +kernel
set_option maxRecDepth 100000 in
theorem starts0_1_0 : startsB0 1 0 0 = true := by decide +kernel
set_option maxRecDepth 100000 in
theorem starts0_1_1 : startsB0 1 1 0 = true := by decide +kernel
set_option maxRecDepth 100000 in
theorem starts0_2_0 : startsB0 2 0 0 = true := by decide +kernel
set_option maxRecDepth 100000 in
theorem starts0_2_1 : startsB0 2 1 0 = true := by decide +kernel
set_option maxRecDepth 100000 in
theorem starts0_3_0 : startsB0 3 0 0 = true := by decide +kernel
set_option maxRecDepth 100000 in
theorem starts0_3_1 : startsB0 3 1 0 = true := by decide +kernel
end Go.Proofs.YtbfbiggmckbenaaGreatDoor
