/-
  ValidLimits: the cases whose second number is from 16384 to 65536.
-/
import Derived.Test.YtbfbiggmckbenaaGreatDoorLawValidLimitsB
namespace Go.Proofs.YtbfbiggmckbenaaGreatDoor
open Go Vx

set_option maxRecDepth 100000 in
theorem lim_0_2_true_false : lim 0 127 16384 65536 true false = true := by decide +kernel
set_option maxRecDepth 100000 in
theorem lim_0_2_true_true : lim 0 127 16384 65536 true true = true := by decide +kernel
set_option maxRecDepth 100000 in
theorem lim_1_2_true_false : lim 128 1024 16384 65536 true false = true := by decide +kernel
set_option maxRecDepth 100000 in
theorem lim_1_2_true_true : lim 128 1024 16384 65536 true true = true := by decide +kernel
set_option maxRecDepth 100000 in
theorem lim_2_2_true_false : lim 1025 16383 16384 65536 true false = true := by decide +kernel
set_option maxRecDepth 100000 in
theorem lim_2_2_true_true : lim 1025 16383 16384 65536 true true = true := by decide +kernel
set_option maxRecDepth 100000 in
theorem lim_3_2_true_false : lim 16384 65535 16384 65536 true false = true := by decide +kernel
set_option maxRecDepth 100000 in
theorem lim_3_2_true_true : lim 16384 65535 16384 65536 true true = true := by decide +kernel
set_option maxRecDepth 100000 in
theorem lim_3_2_false_false : lim 16384 65535 16384 65536 false false = true := by decide +kernel
set_option maxRecDepth 100000 in
theorem lim_3_2_false_true : lim 16384 65535 16384 65536 false true = true := by decide +kernel
set_option maxRecDepth 100000 in
theorem lim_4_2_true_false : lim 65536 65536 16384 65536 true false = true := by decide +kernel
set_option maxRecDepth 100000 in
theorem lim_4_2_true_true : lim 65536 65536 16384 65536 true true = true := by decide +kernel
set_option maxRecDepth 100000 in
theorem lim_4_2_false_false : lim 65536 65536 16384 65536 false false = true := by decide +kernel
set_option maxRecDepth 100000 in
theorem lim_4_2_false_true : lim 65536 65536 16384 65536 false true = true := by decide +kernel
set_option maxRecDepth 100000 in
theorem lim_5_2_false_false : lim 65537 65663 16384 65536 false false = true := by decide +kernel
set_option maxRecDepth 100000 in
theorem lim_5_2_false_true : lim 65537 65663 16384 65536 false true = true := by decide +kernel
set_option maxRecDepth 100000 in
theorem lim_6_2_false_false : lim 65664 81919 16384 65536 false false = true := by decide +kernel
set_option maxRecDepth 100000 in
theorem lim_6_2_false_true : lim 65664 81919 16384 65536 false true = true := by decide +kernel
set_option maxRecDepth 100000 in
theorem lim_7_2_false_false : lim 81920 131071 16384 65536 false false = true := by decide +kernel
set_option maxRecDepth 100000 in
theorem lim_7_2_false_true : lim 81920 131071 16384 65536 false true = true := by decide +kernel
end Go.Proofs.YtbfbiggmckbenaaGreatDoor
