/-
  ValidExports: the cases whose last number is true, run.
-/
import Derived.Test.YtbfbiggmckbenaaGreatDoorValBase
namespace Go.Proofs.YtbfbiggmckbenaaGreatDoor
open Go Vx

noncomputable def exportsB1 (p : Nat) (q : Nat) (r : Bool) : Bool := valM [.and 0 3 p, .and 1 7 q] [[]] 4 [.int .i64 (.var 0), .int .i64 (.var 1), .bool r]
set_option maxRecDepth 100000 in
theorem exports1_0_0 : exportsB1 0 0 true = true := by decide +kernel
set_option maxRecDepth 100000 in
theorem exports1_0_1 : exportsB1 0 1 true = true := by decide +kernel
set_option maxRecDepth 100000 in
theorem exports1_0_2 : exportsB1 0 2 true = true := by decide +kernel
set_option maxRecDepth 100000 in
theorem exports1_0_3 : exportsB1 0 3 true = true := by decide +kernel
set_option maxRecDepth 100000 in
theorem exports1_0_4 : exportsB1 0 4 true = true := by decide +kernel
set_option maxRecDepth 100000 in
theorem exports1_0_5 : exportsB1 0 5 true = true := by decide +kernel
set_option maxRecDepth 100000 in
theorem exports1_0_6 : exportsB1 0 6 true = true := by decide +kernel
set_option maxRecDepth 100000 in
theorem exports1_0_7 : exportsB1 0 7 true = true := by decide +kernel
set_option maxRecDepth 100000 in
theorem exports1_1_0 : exportsB1 1 0 true = true := by decide +kernel
set_option maxRecDepth 100000 in
theorem exports1_1_1 : exportsB1 1 1 true = true := by decide +kernel
set_option maxRecDepth 100000 in
theorem exports1_1_2 : exportsB1 1 2 true = true := by decide +kernel
set_option maxRecDepth 100000 in
theorem exports1_1_3 : exportsB1 1 3 true = true := by decide +kernel
set_option maxRecDepth 100000 in
theorem exports1_1_4 : exportsB1 1 4 true = true := by decide +kernel
set_option maxRecDepth 100000 in
theorem exports1_1_5 : exportsB1 1 5 true = true := by decide +kernel
set_option maxRecDepth 100000 in
theorem exports1_1_6 : exportsB1 1 6 true = true := by decide +kernel
set_option maxRecDepth 100000 in
theorem exports1_1_7 : exportsB1 1 7 true = true := by decide +kernel
set_option maxRecDepth 100000 in
theorem exports1_2_0 : exportsB1 2 0 true = true := by decide +kernel
set_option maxRecDepth 100000 in
theorem exports1_2_1 : exportsB1 2 1 true = true := by decide +kernel
set_option maxRecDepth 100000 in
theorem exports1_2_2 : exportsB1 2 2 true = true := by decide +kernel
set_option maxRecDepth 100000 in
theorem exports1_2_3 : exportsB1 2 3 true = true := by decide +kernel
set_option maxRecDepth 100000 in
theorem exports1_2_4 : exportsB1 2 4 true = true := by decide +kernel
set_option maxRecDepth 100000 in
theorem exports1_2_5 : exportsB1 2 5 true = true := by decide +kernel
set_option maxRecDepth 100000 in
theorem exports1_2_6 : exportsB1 2 6 true = true := by decide +kernel
set_option maxRecDepth 100000 in
theorem exports1_2_7 : exportsB1 2 7 true = true := by decide +kernel
set_option maxRecDepth 100000 in
theorem exports1_3_0 : exportsB1 3 0 true = true := by decide +kernel
set_option maxRecDepth 100000 in
theorem exports1_3_1 : exportsB1 3 1 true = true := by decide +kernel
set_option maxRecDepth 100000 in
theorem exports1_3_2 : exportsB1 3 2 true = true := by decide +kernel
set_option maxRecDepth 100000 in
theorem exports1_3_3 : exportsB1 3 3 true = true := by decide +kernel
set_option maxRecDepth 100000 in
theorem exports1_3_4 : exportsB1 3 4 true = true := by decide +kernel
set_option maxRecDepth 100000 in
theorem exports1_3_5 : exportsB1 3 5 true = true := by decide +kernel
set_option maxRecDepth 100000 in
theorem exports1_3_6 : exportsB1 3 6 true = true := by decide +kernel
set_option maxRecDepth 100000 in
theorem exports1_3_7 : exportsB1 3 7 true = true := by decide +kernel
end Go.Proofs.YtbfbiggmckbenaaGreatDoor
