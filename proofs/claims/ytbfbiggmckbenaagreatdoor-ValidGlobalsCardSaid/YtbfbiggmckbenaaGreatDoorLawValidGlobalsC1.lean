/-
  ValidGlobals: the cases whose last number is true, run.
-/
import Derived.Test.YtbfbiggmckbenaaGreatDoorValBase
namespace Go.Proofs.YtbfbiggmckbenaaGreatDoor
open Go Vx

noncomputable def globalsB1 (p : Nat) (q : Nat) (r : Bool) : Bool := valM [.and 0 3 p, .and 1 3 q] [[]] 7 [.int .i64 (.var 0), .int .i64 (.var 1), .bool r]
set_option maxRecDepth 100000 in
theorem globals1_0_0 : globalsB1 0 0 true = true := by decide +kernel
set_option maxRecDepth 100000 in
theorem globals1_0_1 : globalsB1 0 1 true = true := by decide +kernel
set_option maxRecDepth 100000 in
theorem globals1_0_2 : globalsB1 0 2 true = true := by decide +kernel
set_option maxRecDepth 100000 in
theorem globals1_0_3 : globalsB1 0 3 true = true := by decide +kernel
set_option maxRecDepth 100000 in
theorem globals1_1_0 : globalsB1 1 0 true = true := by decide +kernel
set_option maxRecDepth 100000 in
theorem globals1_1_1 : globalsB1 1 1 true = true := by decide +kernel
set_option maxRecDepth 100000 in
theorem globals1_1_2 : globalsB1 1 2 true = true := by decide +kernel
set_option maxRecDepth 100000 in
theorem globals1_1_3 : globalsB1 1 3 true = true := by decide +kernel
set_option maxRecDepth 100000 in
theorem globals1_2_0 : globalsB1 2 0 true = true := by decide +kernel
set_option maxRecDepth 100000 in
theorem globals1_2_1 : globalsB1 2 1 true = true := by decide +kernel
set_option maxRecDepth 100000 in
theorem globals1_2_2 : globalsB1 2 2 true = true := by decide +kernel
set_option maxRecDepth 100000 in
theorem globals1_2_3 : globalsB1 2 3 true = true := by decide +kernel
set_option maxRecDepth 100000 in
theorem globals1_3_0 : globalsB1 3 0 true = true := by decide +kernel
set_option maxRecDepth 100000 in
theorem globals1_3_1 : globalsB1 3 1 true = true := by decide +kernel
set_option maxRecDepth 100000 in
theorem globals1_3_2 : globalsB1 3 2 true = true := by decide +kernel
set_option maxRecDepth 100000 in
theorem globals1_3_3 : globalsB1 3 3 true = true := by decide +kernel
end Go.Proofs.YtbfbiggmckbenaaGreatDoor
