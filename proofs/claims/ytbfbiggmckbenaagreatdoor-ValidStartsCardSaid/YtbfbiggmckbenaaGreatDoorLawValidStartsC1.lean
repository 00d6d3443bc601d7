/-
  ValidStarts: the cases whose last number is 1, run.
-/
import Derived.Test.YtbfbiggmckbenaaGreatDoorValBase
namespace Go.Proofs.YtbfbiggmckbenaaGreatDoor
open Go Vx

noncomputable def startsB1 (p : Nat) (q : Nat) (r : Nat) : Bool := valM [.and 0 3 p, .and 1 1 q, .and 2 1 r] [[]] 5 [.int .i64 (.var 0), .int .i64 (.var 1), .int .i64 (.var 2)]
set_option maxRecDepth 100000 in
theorem starts1_0_0 : startsB1 0 0 1 = true := by decide +kernel
set_option maxRecDepth 100000 in
theorem starts1_0_1 : startsB1 0 1 1 = true := by decide +kernel
set_option maxRecDepth 100000 in
theorem starts1_1_0 : startsB1 1 0 1 = true := by decide +kernel
set_option maxRecDepth 100000 in
theorem starts1_1_1 : startsB1 1 1 1 = true := by decide +kernel
set_option maxRecDepth 100000 in
theorem starts1_2_0 : startsB1 2 0 1 = true := by decide +kernel
set_option maxRecDepth 100000 in
theorem starts1_2_1 : startsB1 2 1 1 = true := by decide +kernel
set_option maxRecDepth 100000 in
theorem starts1_3_0 : startsB1 3 0 1 = true := by decide +kernel
set_option maxRecDepth 100000 in
theorem starts1_3_1 : startsB1 3 1 1 = true := by decide +kernel
end Go.Proofs.YtbfbiggmckbenaaGreatDoor
