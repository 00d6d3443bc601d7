/-
  ValidSegments: the cases whose last number is 2, run.
-/
import Derived.Test.YtbfbiggmckbenaaGreatDoorValBase
namespace Go.Proofs.YtbfbiggmckbenaaGreatDoor
open Go Vx

noncomputable def segmentsB2 (p : Nat) (q : Bool) (r : Nat) : Bool := valM [.and 0 3 p, .and 2 3 r] [[]] 6 [.int .i64 (.var 0), .bool q, .int .i64 (.var 2)]
set_option maxRecDepth 100000 in
theorem segments2_0_false : segmentsB2 0 false 2 = true := by decide +kernel
set_option maxRecDepth 100000 in
theorem segments2_0_true : segmentsB2 0 true 2 = true := by decide +kernel
set_option maxRecDepth 100000 in
theorem segments2_1_false : segmentsB2 1 false 2 = true := by decide +kernel
set_option maxRecDepth 100000 in
theorem segments2_1_true : segmentsB2 1 true 2 = true := by decide +kernel
set_option maxRecDepth 100000 in
theorem segments2_2_false : segmentsB2 2 false 2 = true := by decide +kernel
set_option maxRecDepth 100000 in
theorem segments2_2_true : segmentsB2 2 true 2 = true := by decide +kernel
set_option maxRecDepth 100000 in
theorem segments2_3_false : segmentsB2 3 false 2 = true := by decide +kernel
set_option maxRecDepth 100000 in
theorem segments2_3_true : segmentsB2 3 true 2 = true := by decide +kernel
end Go.Proofs.YtbfbiggmckbenaaGreatDoor
