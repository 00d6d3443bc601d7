/-
  ValidSegments: the cases whose last number is 0, run.
-/
import Derived.Test.YtbfbiggmckbenaaGreatDoorValBase
namespace Go.Proofs.YtbfbiggmckbenaaGreatDoor
open Go Vx

noncomputable def segmentsB0 (p : Nat) (q : Bool) (r : Nat) : Bool := valM [.and 0 3 p, .and 2 3 r] [[]] 6 [.int .i64 (.var 0), .bool q, .int .i64 (.var 2)]
set_option maxRecDepth 100000 in
theorem segments0_0_false : segmentsB0 0 false 0 = true := by decide +kernel
set_option maxRecDepth 100000 in
theorem segments0_0_true : segmentsB0 0 true 0 = true := by decide +kernel
set_option maxRecDepth 100000 in
theorem segments0_1_false : segmentsB0 1 false 0 = true := by decide +kernel
set_option maxRecDepth 100000 in
theorem segments0_1_true : segmentsB0 1 true 0 = true := by decide +kernel
set_option maxRecDepth 100000 in
theorem segments0_2_false : segmentsB0 2 false 0 = true := by decide +kernel
set_option maxRecDepth 100000 in
theorem segments0_2_true : segmentsB0 2 true 0 = true := by decide +kernel
set_option maxRecDepth 100000 in
theorem segments0_3_false : segmentsB0 3 false 0 = true := by decide +kernel
set_option maxRecDepth 100000 in
theorem segments0_3_true : segmentsB0 3 true 0 = true := by decide +kernel
end Go.Proofs.YtbfbiggmckbenaaGreatDoor
