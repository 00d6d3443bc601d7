/-
  ValidSegments: the cases whose last number is 3, run.
-/
import Derived.Test.YtbfbiggmckbenaaGreatDoorValBase
namespace Go.Proofs.YtbfbiggmckbenaaGreatDoor
open Go Vx

noncomputable def segmentsB3 (p : Nat) (q : Bool) (r : Nat) : Bool := valM [.and 0 3 p, .and 2 3 r] [[]] 6 [.int .i64 (.var 0), .bool q, .int .i64 (.var 2)]
set_option maxRecDepth 100000 in
theorem segments3_0_false : segmentsB3 0 false 3 = true := by decide +kernel
set_option maxRecDepth 100000 in
theorem segments3_0_true : segmentsB3 0 true 3 = true := by decide +kernel
set_option maxRecDepth 100000 in
theorem segments3_1_false : segmentsB3 1 false 3 = true := by decide +kernel
set_option maxRecDepth 100000 in
theorem segments3_1_true : segmentsB3 1 true 3 = true := by decide +kernel
set_option maxRecDepth 100000 in
theorem segments3_2_false : segmentsB3 2 false 3 = true := by decide +kernel
set_option maxRecDepth 100000 in
theorem segments3_2_true : segmentsB3 2 true 3 = true := by decide +kernel
set_option maxRecDepth 100000 in
theorem segments3_3_false : segmentsB3 3 false 3 = true := by decide +kernel
set_option maxRecDepth 100000 in
theorem segments3_3_true : segmentsB3 3 true 3 = true := by decide +kernel
end Go.Proofs.YtbfbiggmckbenaaGreatDoor
