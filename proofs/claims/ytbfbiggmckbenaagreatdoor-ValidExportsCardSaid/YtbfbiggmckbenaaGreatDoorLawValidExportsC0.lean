/-
  ValidExports: the cases whose last number is false, run.
-/
import Derived.Test.YtbfbiggmckbenaaGreatDoorValBase
namespace Go.Proofs.YtbfbiggmckbenaaGreatDoor
open Go Vx

noncomputable def exportsB0 (p : Nat) (q : Nat) (r : Bool) : Bool := valM [.and 0 3 p, .and 1 7 q] [[]] 4 [.int .i64 (.var 0), .int .i64 (.var 1), .bool r]
set_option maxRecDepth 100000 in
theorem exports0_0_0 : exportsB0 0 0 false = true := by decide +kernel
set_option maxRecDepth 100000 in
theorem exports0_0_1 : exportsB0 0 1 false = true := by decide +kernel
set_option maxRecDepth 100000 in
theorem exports0_0_2 : exportsB0 0 2 false = true := by decide +kernel
set_option maxRecDepth 100000 in
theorem exports0_0_3 : exportsB0 0 3 false = true := by decide +kernel
set_option maxRecDepth 100000 in
theorem exports0_0_4 : exportsB0 0 4 false = true := by decide +kernel
set_option maxRecDepth 100000 in
theorem exports0_0_5 : exportsB0 0 5 false = true := by decide +kernel
set_option maxRecDepth 100000 in
theorem exports0_0_6 : exportsB0 0 6 false = true := by decide +kernel
set_option maxRecDepth 100000 in
theorem exports0_0_7 : exportsB0 0 7 false = true := by decide +kernel
set_option maxRecDepth 100000 in
theorem exports0_1_0 : exportsB0 1 0 false = true := by decide +kernel
set_option maxRecDepth 100000 in
theorem exports0_1_1 : exportsB0 1 1 false = true := by decide +kernel
set_option maxRecDepth 100000 in
theorem exports0_1_2 : exportsB0 1 2 false = true := by decide +kernel
set_option maxRecDepth 100000 in
theorem exports0_1_3 : exportsB0 1 3 false = true := by decide +kernel
set_option maxRecDepth 100000 in
theorem exports0_1_4 : exportsB0 1 4 false = true := by decide +kernel
set_option maxRecDepth 100000 in
theorem exports0_1_5 : exportsB0 1 5 false = true := by decide +kernel
set_option maxRecDepth 100000 in
theorem exports0_1_6 : exportsB0 1 6 false = true := by decide +kernel
set_option maxRecDepth 100000 in
theorem exports0_1_7 : exportsB0 1 7 false = true := by decide +kernel
set_option maxRecDepth 100000 in
theorem exports0_2_0 : exportsB0 2 0 false = true := by decide +kernel
set_option maxRecDepth 100000 in
theorem exports0_2_1 : exportsB0 2 1 false = true := by decide +kernel
set_option maxRecDepth 100000 in
theorem exports0_2_2 : exportsB0 2 2 false = true := by decide +kernel
set_option maxRecDepth 100000 in
theorem exports0_2_3 : exportsB0 2 3 false = true := by decide +kernel
set_option maxRecDepth 100000 in
theorem exports0_2_4 : exportsB0 2 4 false = true := by decide +kernel
set_option maxRecDepth 100000 in
theorem exports0_2_5 : exportsB0 2 5 false = true := by decide +kernel
set_option maxRecDepth 100000 in
theorem exports0_2_6 : exportsB0 2 6 false = true := by decide +kernel
set_option maxRecDepth 100000 in
theorem exports0_2_7 : exportsB0 2 7 false = true := by decide +kernel
set_option maxRecDepth 100000 in
theorem exports0_3_0 : exportsB0 3 0 false = true := by decide +kernel
set_option maxRecDepth 100000 in
theorem exports0_3_1 : exportsB0 3 1 false = true := by decide +kernel
set_option maxRecDepth 100000 in
theorem exports0_3_2 : exportsB0 3 2 false = true := by decide +kernel
set_option maxRecDepth 100000 in
theorem exports0_3_3 : exportsB0 3 3 false = true := by decide +kernel
set_option maxRecDepth 100000 in
theorem exports0_3_4 : exportsB0 3 4 false = true := by decide +kernel
set_option maxRecDepth 100000 in
theorem exports0_3_5 : exportsB0 3 5 false = true := by decide +kernel
set_option maxRecDepth 100000 in
theorem exports0_3_6 : exportsB0 3 6 false = true := by decide +kernel
set_option maxRecDepth 100000 in
theorem exports0_3_7 : exportsB0 3 7 false = true := by decide +kernel
end Go.Proofs.YtbfbiggmckbenaaGreatDoor
