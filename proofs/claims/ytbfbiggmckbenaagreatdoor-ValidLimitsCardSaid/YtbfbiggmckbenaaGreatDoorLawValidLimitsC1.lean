/-
  ValidLimits: the cases whose second number is from 128 to 16383.
-/
import Derived.Test.YtbfbiggmckbenaaGreatDoorLawValidLimitsB
namespace Go.Proofs.YtbfbiggmckbenaaGreatDoor
open Go Vx

set_option maxRecDepth 100000 in
theorem lim_0_1_true_false : lim 0 127 128 16383 true false = true := by decide +kernel
set_option maxRecDepth 100000 in
theorem lim_0_1_true_true : lim 0 127 128 16383 true true = true := by decide +kernel
set_option maxRecDepth 100000 in
theorem lim_1_1_true_false : lim 128 1024 128 16383 true false = true := by decide +kernel
set_option maxRecDepth 100000 in
theorem lim_1_1_true_true : lim 128 1024 128 16383 true true = true := by decide +kernel
set_option maxRecDepth 100000 in
theorem lim_1_1_false_false : lim 128 1024 128 16383 false false = true := by decide +kernel
set_option maxRecDepth 100000 in
theorem lim_1_1_false_true : lim 128 1024 128 16383 false true = true := by decide +kernel
set_option maxRecDepth 100000 in
theorem lim_2_1_true_false : lim 1025 16383 128 16383 true false = true := by decide +kernel
set_option maxRecDepth 100000 in
theorem lim_2_1_true_true : lim 1025 16383 128 16383 true true = true := by decide +kernel
set_option maxRecDepth 100000 in
theorem lim_2_1_false_false : lim 1025 16383 128 16383 false false = true := by decide +kernel
set_option maxRecDepth 100000 in
theorem lim_2_1_false_true : lim 1025 16383 128 16383 false true = true := by decide +kernel
set_option maxRecDepth 100000 in
theorem lim_3_1_false_false : lim 16384 65535 128 16383 false false = true := by decide +kernel
set_option maxRecDepth 100000 in
theorem lim_3_1_false_true : lim 16384 65535 128 16383 false true = true := by decide +kernel
set_option maxRecDepth 100000 in
theorem lim_4_1_false_false : lim 65536 65536 128 16383 false false = true := by decide +kernel
set_option maxRecDepth 100000 in
theorem lim_4_1_false_true : lim 65536 65536 128 16383 false true = true := by decide +kernel
set_option maxRecDepth 100000 in
theorem lim_5_1_false_false : lim 65537 65663 128 16383 false false = true := by decide +kernel
set_option maxRecDepth 100000 in
theorem lim_5_1_false_true : lim 65537 65663 128 16383 false true = true := by decide +kernel
set_option maxRecDepth 100000 in
theorem lim_6_1_false_false : lim 65664 81919 128 16383 false false = true := by decide +kernel
set_option maxRecDepth 100000 in
theorem lim_6_1_false_true : lim 65664 81919 128 16383 false true = true := by decide +kernel
set_option maxRecDepth 100000 in
theorem lim_7_1_false_false : lim 81920 131071 128 16383 false false = true := by decide +kernel
set_option maxRecDepth 100000 in
theorem lim_7_1_false_true : lim 81920 131071 128 16383 false true = true := by decide +kernel
end Go.Proofs.YtbfbiggmckbenaaGreatDoor
