/-
  ValidLimits: the cases whose second number is from 0 to 127.
-/
import Derived.Test.YtbfbiggmckbenaaGreatDoorLawValidLimitsB
namespace Go.Proofs.YtbfbiggmckbenaaGreatDoor
open Go Vx

set_option maxRecDepth 100000 in
theorem lim_0_0_true_false : lim 0 127 0 127 true false = true := by decide +kernel
set_option maxRecDepth 100000 in
theorem lim_0_0_true_true : lim 0 127 0 127 true true = true := by decide +kernel
set_option maxRecDepth 100000 in
theorem lim_0_0_false_false : lim 0 127 0 127 false false = true := by decide +kernel
set_option maxRecDepth 100000 in
theorem lim_0_0_false_true : lim 0 127 0 127 false true = true := by decide +kernel
set_option maxRecDepth 100000 in
theorem lim_1_0_false_false : lim 128 1024 0 127 false false = true := by decide +kernel
set_option maxRecDepth 100000 in
theorem lim_1_0_false_true : lim 128 1024 0 127 false true = true := by decide +kernel
set_option maxRecDepth 100000 in
theorem lim_2_0_false_false : lim 1025 16383 0 127 false false = true := by decide +kernel
set_option maxRecDepth 100000 in
theorem lim_2_0_false_true : lim 1025 16383 0 127 false true = true := by decide +kernel
set_option maxRecDepth 100000 in
theorem lim_3_0_false_false : lim 16384 65535 0 127 false false = true := by decide +kernel
set_option maxRecDepth 100000 in
theorem lim_3_0_false_true : lim 16384 65535 0 127 false true = true := by decide +kernel
set_option maxRecDepth 100000 in
theorem lim_4_0_false_false : lim 65536 65536 0 127 false false = true := by decide +kernel
set_option maxRecDepth 100000 in
theorem lim_4_0_false_true : lim 65536 65536 0 127 false true = true := by decide +kernel
set_option maxRecDepth 100000 in
theorem lim_5_0_false_false : lim 65537 65663 0 127 false false = true := by decide +kernel
set_option maxRecDepth 100000 in
theorem lim_5_0_false_true : lim 65537 65663 0 127 false true = true := by decide +kernel
set_option maxRecDepth 100000 in
theorem lim_6_0_false_false : lim 65664 81919 0 127 false false = true := by decide +kernel
set_option maxRecDepth 100000 in
theorem lim_6_0_false_true : lim 65664 81919 0 127 false true = true := by decide +kernel
set_option maxRecDepth 100000 in
theorem lim_7_0_false_false : lim 81920 131071 0 127 false false = true := by decide +kernel
set_option maxRecDepth 100000 in
theorem lim_7_0_false_true : lim 81920 131071 0 127 false true = true := by decide +kernel
end Go.Proofs.YtbfbiggmckbenaaGreatDoor
