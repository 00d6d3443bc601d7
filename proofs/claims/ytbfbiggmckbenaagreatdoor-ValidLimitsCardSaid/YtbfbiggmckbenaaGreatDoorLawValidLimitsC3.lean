/-
  ValidLimits: the cases whose second number is from 65537 to 131071.
-/
import Derived.Test.YtbfbiggmckbenaaGreatDoorLawValidLimitsB
namespace Go.Proofs.YtbfbiggmckbenaaGreatDoor
open Go Vx

set_option maxRecDepth 100000 in
theorem lim_0_3_true_false : lim 0 127 65537 131071 true false = true := by decide +kernel
set_option maxRecDepth 100000 in
theorem lim_0_3_true_true : lim 0 127 65537 131071 true true = true := by decide +kernel
set_option maxRecDepth 100000 in
theorem lim_1_3_true_false : lim 128 1024 65537 131071 true false = true := by decide +kernel
set_option maxRecDepth 100000 in
theorem lim_1_3_true_true : lim 128 1024 65537 131071 true true = true := by decide +kernel
set_option maxRecDepth 100000 in
theorem lim_2_3_true_false : lim 1025 16383 65537 131071 true false = true := by decide +kernel
set_option maxRecDepth 100000 in
theorem lim_2_3_true_true : lim 1025 16383 65537 131071 true true = true := by decide +kernel
set_option maxRecDepth 100000 in
theorem lim_3_3_true_false : lim 16384 65535 65537 131071 true false = true := by decide +kernel
set_option maxRecDepth 100000 in
theorem lim_3_3_true_true : lim 16384 65535 65537 131071 true true = true := by decide +kernel
set_option maxRecDepth 100000 in
theorem lim_4_3_true_false : lim 65536 65536 65537 131071 true false = true := by decide +kernel
set_option maxRecDepth 100000 in
theorem lim_4_3_true_true : lim 65536 65536 65537 131071 true true = true := by decide +kernel
set_option maxRecDepth 100000 in
theorem lim_5_3_true_false : lim 65537 65663 65537 131071 true false = true := by decide +kernel
set_option maxRecDepth 100000 in
theorem lim_5_3_true_true : lim 65537 65663 65537 131071 true true = true := by decide +kernel
set_option maxRecDepth 100000 in
theorem lim_5_3_false_false : lim 65537 65663 65537 131071 false false = true := by decide +kernel
set_option maxRecDepth 100000 in
theorem lim_5_3_false_true : lim 65537 65663 65537 131071 false true = true := by decide +kernel
set_option maxRecDepth 100000 in
theorem lim_6_3_true_false : lim 65664 81919 65537 131071 true false = true := by decide +kernel
set_option maxRecDepth 100000 in
theorem lim_6_3_true_true : lim 65664 81919 65537 131071 true true = true := by decide +kernel
set_option maxRecDepth 100000 in
theorem lim_6_3_false_false : lim 65664 81919 65537 131071 false false = true := by decide +kernel
set_option maxRecDepth 100000 in
theorem lim_6_3_false_true : lim 65664 81919 65537 131071 false true = true := by decide +kernel
set_option maxRecDepth 100000 in
theorem lim_7_3_true_false : lim 81920 131071 65537 131071 true false = true := by decide +kernel
set_option maxRecDepth 100000 in
theorem lim_7_3_true_true : lim 81920 131071 65537 131071 true true = true := by decide +kernel
set_option maxRecDepth 100000 in
theorem lim_7_3_false_false : lim 81920 131071 65537 131071 false false = true := by decide +kernel
set_option maxRecDepth 100000 in
theorem lim_7_3_false_true : lim 81920 131071 65537 131071 false true = true := by decide +kernel
end Go.Proofs.YtbfbiggmckbenaaGreatDoor
