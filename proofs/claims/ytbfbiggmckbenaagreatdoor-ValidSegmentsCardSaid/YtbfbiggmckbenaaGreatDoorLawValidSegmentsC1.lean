/-
  ValidSegments: the cases whose last number is 1, run.
-/
import Derived.Test.YtbfbiggmckbenaaGreatDoorValBase
namespace Go.Proofs.YtbfbiggmckbenaaGreatDoor
open Go Vx

noncomputable def segmentsB1 (p : Nat) (q : Bool) (r : Nat) : Bool := valM [.and 0 3 p, .and 2 3 r] [[]] 6 [.int .i64 (.var 0), .bool q, .int .i64 (.var 2)]
set_option maxRecDepth 100000 in
theorem segments1_0_false : segmentsB1 0 false 1 = true := by decide +kernel
set_option maxRecDepth 100000 in
theorem segments1_0_true : segmentsB1 0 true 1 = true := by decide +kernel
set_option maxRecDepth 100000 in
theorem segments1_1_false : segmentsB1 1 false 1 = true := by decide +kernel
set_option maxRecDepth 100000 in
theorem segments1_1_true : segmentsB1 1 true 1 = true := by decide +kernel
set_option maxRecDepth 100000 in
theorem segments1_2_false : segmentsB1 2 false 1 = true := by decide +kernel
set_option maxRecDepth 100000 in
theorem segments1_2_true : segmentsB1 2 true 1 = true := by decide +kernel
set_option maxRecDepth 100000 in
theorem segments1_3_false : segmentsB1 3 false 1 = true := by decide +kernel
set_option maxRecDepth 100000 in
theorem segments1_3_true : segmentsB1 3 true 1 = true := by decide +kernel
end Go.Proofs.YtbfbiggmckbenaaGreatDoor
