/-
  ValidGlobals: the cases whose last number is false, run.
-/
import Derived.Test.YtbfbiggmckbenaaGreatDoorValBase
namespace Go.Proofs.YtbfbiggmckbenaaGreatDoor
open Go Vx

noncomputable def globalsB0 (p : Nat) (q : Nat) (r : Bool) : Bool := valM [.and 0 3 p, .and 1 3 q] [[]] 7 [.int .i64 (.var 0), .int .i64 (.var 1), .bool r]
set_option maxRecDepth 100000 in
theorem globals0_0_0 : globalsB0 0 0 false = true := by decide +kernel
set_option maxRecDepth 100000 in
theorem globals0_0_1 : globalsB0 0 1 false = true := by decide +kernel
set_option maxRecDepth 100000 in
theorem globals0_0_2 : globalsB0 0 2 false = true := by decide +kernel
set_option maxRecDepth 100000 in
theorem globals0_0_3 : globalsB0 0 3 false = true := by decide +kernel
set_option maxRecDepth 100000 in
theorem globals0_1_0 : globalsB0 1 0 false = true := by decide +kernel
set_option maxRecDepth 100000 in
theorem globals0_1_1 : globalsB0 1 1 false = true := by decide +kernel
set_option maxRecDepth 100000 in
theorem globals0_1_2 : globalsB0 1 2 false = true := by decide +kernel
set_option maxRecDepth 100000 in
theorem globals0_1_3 : globalsB0 1 3 false = true := by decide +kernel
set_option maxRecDepth 100000 in
theorem globals0_2_0 : globalsB0 2 0 false = true := by decide +kernel
set_option maxRecDepth 100000 in
theorem globals0_2_1 : globalsB0 2 1 false = true := by decide +kernel
set_option maxRecDepth 100000 in
theorem globals0_2_2 : globalsB0 2 2 false = true := by decide +kernel
set_option maxRecDepth 100000 in
theorem globals0_2_3 : globalsB0 2 3 false = true := by decide +kernel
set_option maxRecDepth 100000 in
theorem globals0_3_0 : globalsB0 3 0 false = true := by decide +kernel
set_option maxRecDepth 100000 in
theorem globals0_3_1 : globalsB0 3 1 false = true := by decide +kernel
set_option maxRecDepth 100000 in
theorem globals0_3_2 : globalsB0 3 2 false = true := by decide +kernel
set_option maxRecDepth 100000 in
theorem globals0_3_3 : globalsB0 3 3 false = true := by decide +kernel
end Go.Proofs.YtbfbiggmckbenaaGreatDoor
