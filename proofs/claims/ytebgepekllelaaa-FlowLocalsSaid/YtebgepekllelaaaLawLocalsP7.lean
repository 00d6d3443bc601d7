/-
  FlowLocals: the cases of 7 parameters.
-/
import Derived.Test.YtebgepekllelaaaLawLocalsB
namespace Go.Proofs.Ytebgepekllelaaa
open Go Vx

set_option maxRecDepth 100000 in
theorem loc_7_0_0 : locOne 7 0 0 = true := by decide +kernel
set_option maxRecDepth 100000 in
theorem loc_7_0_1 : locOne 7 0 1 = true := by decide +kernel
set_option maxRecDepth 100000 in
theorem loc_7_0_2 : locOne 7 0 2 = true := by decide +kernel
set_option maxRecDepth 100000 in
theorem loc_7_0_3 : locOne 7 0 3 = true := by decide +kernel
set_option maxRecDepth 100000 in
theorem loc_7_0_4 : locOne 7 0 4 = true := by decide +kernel
set_option maxRecDepth 100000 in
theorem loc_7_0_5 : locOne 7 0 5 = true := by decide +kernel
set_option maxRecDepth 100000 in
theorem loc_7_0_6 : locOne 7 0 6 = true := by decide +kernel
set_option maxRecDepth 100000 in
theorem loc_7_0_c : locCls 7 0 7 = true := by decide +kernel
set_option maxRecDepth 100000 in
theorem loc_7_1_0 : locOne 7 1 0 = true := by decide +kernel
set_option maxRecDepth 100000 in
theorem loc_7_1_1 : locOne 7 1 1 = true := by decide +kernel
set_option maxRecDepth 100000 in
theorem loc_7_1_2 : locOne 7 1 2 = true := by decide +kernel
set_option maxRecDepth 100000 in
theorem loc_7_1_3 : locOne 7 1 3 = true := by decide +kernel
set_option maxRecDepth 100000 in
theorem loc_7_1_4 : locOne 7 1 4 = true := by decide +kernel
set_option maxRecDepth 100000 in
theorem loc_7_1_5 : locOne 7 1 5 = true := by decide +kernel
set_option maxRecDepth 100000 in
theorem loc_7_1_6 : locOne 7 1 6 = true := by decide +kernel
set_option maxRecDepth 100000 in
theorem loc_7_1_7 : locOne 7 1 7 = true := by decide +kernel
set_option maxRecDepth 100000 in
theorem loc_7_1_c : locCls 7 1 8 = true := by decide +kernel
set_option maxRecDepth 100000 in
theorem loc_7_2_0 : locOne 7 2 0 = true := by decide +kernel
set_option maxRecDepth 100000 in
theorem loc_7_2_1 : locOne 7 2 1 = true := by decide +kernel
set_option maxRecDepth 100000 in
theorem loc_7_2_2 : locOne 7 2 2 = true := by decide +kernel
set_option maxRecDepth 100000 in
theorem loc_7_2_3 : locOne 7 2 3 = true := by decide +kernel
set_option maxRecDepth 100000 in
theorem loc_7_2_4 : locOne 7 2 4 = true := by decide +kernel
set_option maxRecDepth 100000 in
theorem loc_7_2_5 : locOne 7 2 5 = true := by decide +kernel
set_option maxRecDepth 100000 in
theorem loc_7_2_6 : locOne 7 2 6 = true := by decide +kernel
set_option maxRecDepth 100000 in
theorem loc_7_2_7 : locOne 7 2 7 = true := by decide +kernel
set_option maxRecDepth 100000 in
theorem loc_7_2_8 : locOne 7 2 8 = true := by decide +kernel
set_option maxRecDepth 100000 in
theorem loc_7_2_c : locCls 7 2 9 = true := by decide +kernel
set_option maxRecDepth 100000 in
theorem loc_7_3_0 : locOne 7 3 0 = true := by decide +kernel
set_option maxRecDepth 100000 in
theorem loc_7_3_1 : locOne 7 3 1 = true := by decide +kernel
set_option maxRecDepth 100000 in
theorem loc_7_3_2 : locOne 7 3 2 = true := by decide +kernel
set_option maxRecDepth 100000 in
theorem loc_7_3_3 : locOne 7 3 3 = true := by decide +kernel
set_option maxRecDepth 100000 in
theorem loc_7_3_4 : locOne 7 3 4 = true := by decide +kernel
set_option maxRecDepth 100000 in
theorem loc_7_3_5 : locOne 7 3 5 = true := by decide +kernel
set_option maxRecDepth 100000 in
theorem loc_7_3_6 : locOne 7 3 6 = true := by decide +kernel
set_option maxRecDepth 100000 in
theorem loc_7_3_7 : locOne 7 3 7 = true := by decide +kernel
set_option maxRecDepth 100000 in
theorem loc_7_3_8 : locOne 7 3 8 = true := by decide +kernel
set_option maxRecDepth 100000 in
theorem loc_7_3_9 : locOne 7 3 9 = true := by decide +kernel
set_option maxRecDepth 100000 in
theorem loc_7_3_c : locCls 7 3 10 = true := by decide +kernel
set_option maxRecDepth 100000 in
theorem loc_7_4_0 : locOne 7 4 0 = true := by decide +kernel
set_option maxRecDepth 100000 in
theorem loc_7_4_1 : locOne 7 4 1 = true := by decide +kernel
set_option maxRecDepth 100000 in
theorem loc_7_4_2 : locOne 7 4 2 = true := by decide +kernel
set_option maxRecDepth 100000 in
theorem loc_7_4_3 : locOne 7 4 3 = true := by decide +kernel
set_option maxRecDepth 100000 in
theorem loc_7_4_4 : locOne 7 4 4 = true := by decide +kernel
set_option maxRecDepth 100000 in
theorem loc_7_4_5 : locOne 7 4 5 = true := by decide +kernel
set_option maxRecDepth 100000 in
theorem loc_7_4_6 : locOne 7 4 6 = true := by decide +kernel
set_option maxRecDepth 100000 in
theorem loc_7_4_7 : locOne 7 4 7 = true := by decide +kernel
set_option maxRecDepth 100000 in
theorem loc_7_4_8 : locOne 7 4 8 = true := by decide +kernel
set_option maxRecDepth 100000 in
theorem loc_7_4_9 : locOne 7 4 9 = true := by decide +kernel
set_option maxRecDepth 100000 in
theorem loc_7_4_10 : locOne 7 4 10 = true := by decide +kernel
set_option maxRecDepth 100000 in
theorem loc_7_4_c : locCls 7 4 11 = true := by decide +kernel
set_option maxRecDepth 100000 in
theorem loc_7_5_0 : locOne 7 5 0 = true := by decide +kernel
set_option maxRecDepth 100000 in
theorem loc_7_5_1 : locOne 7 5 1 = true := by decide +kernel
set_option maxRecDepth 100000 in
theorem loc_7_5_2 : locOne 7 5 2 = true := by decide +kernel
set_option maxRecDepth 100000 in
theorem loc_7_5_3 : locOne 7 5 3 = true := by decide +kernel
set_option maxRecDepth 100000 in
theorem loc_7_5_4 : locOne 7 5 4 = true := by decide +kernel
set_option maxRecDepth 100000 in
theorem loc_7_5_5 : locOne 7 5 5 = true := by decide +kernel
set_option maxRecDepth 100000 in
theorem loc_7_5_6 : locOne 7 5 6 = true := by decide +kernel
set_option maxRecDepth 100000 in
theorem loc_7_5_7 : locOne 7 5 7 = true := by decide +kernel
set_option maxRecDepth 100000 in
theorem loc_7_5_8 : locOne 7 5 8 = true := by decide +kernel
set_option maxRecDepth 100000 in
theorem loc_7_5_9 : locOne 7 5 9 = true := by decide +kernel
set_option maxRecDepth 100000 in
theorem loc_7_5_10 : locOne 7 5 10 = true := by decide +kernel
set_option maxRecDepth 100000 in
theorem loc_7_5_11 : locOne 7 5 11 = true := by decide +kernel
set_option maxRecDepth 100000 in
theorem loc_7_5_c : locCls 7 5 12 = true := by decide +kernel
set_option maxRecDepth 100000 in
theorem loc_7_6_0 : locOne 7 6 0 = true := by decide +kernel
set_option maxRecDepth 100000 in
theorem loc_7_6_1 : locOne 7 6 1 = true := by decide +kernel
set_option maxRecDepth 100000 in
theorem loc_7_6_2 : locOne 7 6 2 = true := by decide +kernel
set_option maxRecDepth 100000 in
theorem loc_7_6_3 : locOne 7 6 3 = true := by decide +kernel
set_option maxRecDepth 100000 in
theorem loc_7_6_4 : locOne 7 6 4 = true := by decide +kernel
set_option maxRecDepth 100000 in
theorem loc_7_6_5 : locOne 7 6 5 = true := by decide +kernel
set_option maxRecDepth 100000 in
theorem loc_7_6_6 : locOne 7 6 6 = true := by decide +kernel
set_option maxRecDepth 100000 in
theorem loc_7_6_7 : locOne 7 6 7 = true := by decide +kernel
set_option maxRecDepth 100000 in
theorem loc_7_6_8 : locOne 7 6 8 = true := by decide +kernel
set_option maxRecDepth 100000 in
theorem loc_7_6_9 : locOne 7 6 9 = true := by decide +kernel
set_option maxRecDepth 100000 in
theorem loc_7_6_10 : locOne 7 6 10 = true := by decide +kernel
set_option maxRecDepth 100000 in
theorem loc_7_6_11 : locOne 7 6 11 = true := by decide +kernel
set_option maxRecDepth 100000 in
theorem loc_7_6_12 : locOne 7 6 12 = true := by decide +kernel
set_option maxRecDepth 100000 in
theorem loc_7_6_c : locCls 7 6 13 = true := by decide +kernel
set_option maxRecDepth 100000 in
theorem loc_7_7_0 : locOne 7 7 0 = true := by decide +kernel
set_option maxRecDepth 100000 in
theorem loc_7_7_1 : locOne 7 7 1 = true := by decide +kernel
set_option maxRecDepth 100000 in
theorem loc_7_7_2 : locOne 7 7 2 = true := by decide +kernel
set_option maxRecDepth 100000 in
theorem loc_7_7_3 : locOne 7 7 3 = true := by decide +kernel
set_option maxRecDepth 100000 in
theorem loc_7_7_4 : locOne 7 7 4 = true := by decide +kernel
set_option maxRecDepth 100000 in
theorem loc_7_7_5 : locOne 7 7 5 = true := by decide +kernel
set_option maxRecDepth 100000 in
theorem loc_7_7_6 : locOne 7 7 6 = true := by decide +kernel
set_option maxRecDepth 100000 in
theorem loc_7_7_7 : locOne 7 7 7 = true := by decide +kernel
set_option maxRecDepth 100000 in
theorem loc_7_7_8 : locOne 7 7 8 = true := by decide +kernel
set_option maxRecDepth 100000 in
theorem loc_7_7_9 : locOne 7 7 9 = true := by decide +kernel
set_option maxRecDepth 100000 in
theorem loc_7_7_10 : locOne 7 7 10 = true := by decide +kernel
set_option maxRecDepth 100000 in
theorem loc_7_7_11 : locOne 7 7 11 = true := by decide +kernel
set_option maxRecDepth 100000 in
theorem loc_7_7_12 : locOne 7 7 12 = true := by decide +kernel
set_option maxRecDepth 100000 in
theorem loc_7_7_13 : locOne 7 7 13 = true := by decide +kernel
set_option maxRecDepth 100000 in
theorem loc_7_7_c : locCls 7 7 14 = true := by decide +kernel
end Go.Proofs.Ytebgepekllelaaa
