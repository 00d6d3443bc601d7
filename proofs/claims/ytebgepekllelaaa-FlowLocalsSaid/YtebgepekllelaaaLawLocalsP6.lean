/-
  FlowLocals: the cases of 6 parameters.
-/
import Derived.Test.YtebgepekllelaaaLawLocalsB
namespace Go.Proofs.Ytebgepekllelaaa
open Go Vx

set_option maxRecDepth 100000 in
theorem loc_6_0_0 : locOne 6 0 0 = true := by decide +kernel
set_option maxRecDepth 100000 in
theorem loc_6_0_1 : locOne 6 0 1 = true := by decide +kernel
set_option maxRecDepth 100000 in
theorem loc_6_0_2 : locOne 6 0 2 = true := by decide +kernel
set_option maxRecDepth 100000 in
theorem loc_6_0_3 : locOne 6 0 3 = true := by decide +kernel
set_option maxRecDepth 100000 in
theorem loc_6_0_4 : locOne 6 0 4 = true := by decide +kernel
set_option maxRecDepth 100000 in
theorem loc_6_0_5 : locOne 6 0 5 = true := by decide +kernel
set_option maxRecDepth 100000 in
theorem loc_6_0_c : locCls 6 0 6 = true := by decide +kernel
set_option maxRecDepth 100000 in
theorem loc_6_1_0 : locOne 6 1 0 = true := by decide +kernel
set_option maxRecDepth 100000 in
theorem loc_6_1_1 : locOne 6 1 1 = true := by decide +kernel
set_option maxRecDepth 100000 in
theorem loc_6_1_2 : locOne 6 1 2 = true := by decide +kernel
set_option maxRecDepth 100000 in
theorem loc_6_1_3 : locOne 6 1 3 = true := by decide +kernel
set_option maxRecDepth 100000 in
theorem loc_6_1_4 : locOne 6 1 4 = true := by decide +kernel
set_option maxRecDepth 100000 in
theorem loc_6_1_5 : locOne 6 1 5 = true := by decide +kernel
set_option maxRecDepth 100000 in
theorem loc_6_1_6 : locOne 6 1 6 = true := by decide +kernel
set_option maxRecDepth 100000 in
theorem loc_6_1_c : locCls 6 1 7 = true := by decide +kernel
set_option maxRecDepth 100000 in
theorem loc_6_2_0 : locOne 6 2 0 = true := by decide +kernel
set_option maxRecDepth 100000 in
theorem loc_6_2_1 : locOne 6 2 1 = true := by decide +kernel
set_option maxRecDepth 100000 in
theorem loc_6_2_2 : locOne 6 2 2 = true := by decide +kernel
set_option maxRecDepth 100000 in
theorem loc_6_2_3 : locOne 6 2 3 = true := by decide +kernel
set_option maxRecDepth 100000 in
theorem loc_6_2_4 : locOne 6 2 4 = true := by decide +kernel
set_option maxRecDepth 100000 in
theorem loc_6_2_5 : locOne 6 2 5 = true := by decide +kernel
set_option maxRecDepth 100000 in
theorem loc_6_2_6 : locOne 6 2 6 = true := by decide +kernel
set_option maxRecDepth 100000 in
theorem loc_6_2_7 : locOne 6 2 7 = true := by decide +kernel
set_option maxRecDepth 100000 in
theorem loc_6_2_c : locCls 6 2 8 = true := by decide +kernel
set_option maxRecDepth 100000 in
theorem loc_6_3_0 : locOne 6 3 0 = true := by decide +kernel
set_option maxRecDepth 100000 in
theorem loc_6_3_1 : locOne 6 3 1 = true := by decide +kernel
set_option maxRecDepth 100000 in
theorem loc_6_3_2 : locOne 6 3 2 = true := by decide +kernel
set_option maxRecDepth 100000 in
theorem loc_6_3_3 : locOne 6 3 3 = true := by decide +kernel
set_option maxRecDepth 100000 in
theorem loc_6_3_4 : locOne 6 3 4 = true := by decide +kernel
set_option maxRecDepth 100000 in
theorem loc_6_3_5 : locOne 6 3 5 = true := by decide +kernel
set_option maxRecDepth 100000 in
theorem loc_6_3_6 : locOne 6 3 6 = true := by decide +kernel
set_option maxRecDepth 100000 in
theorem loc_6_3_7 : locOne 6 3 7 = true := by decide +kernel
set_option maxRecDepth 100000 in
theorem loc_6_3_8 : locOne 6 3 8 = true := by decide +kernel
set_option maxRecDepth 100000 in
theorem loc_6_3_c : locCls 6 3 9 = true := by decide +kernel
set_option maxRecDepth 100000 in
theorem loc_6_4_0 : locOne 6 4 0 = true := by decide +kernel
set_option maxRecDepth 100000 in
theorem loc_6_4_1 : locOne 6 4 1 = true := by decide +kernel
set_option maxRecDepth 100000 in
theorem loc_6_4_2 : locOne 6 4 2 = true := by decide +kernel
set_option maxRecDepth 100000 in
theorem loc_6_4_3 : locOne 6 4 3 = true := by decide +kernel
set_option maxRecDepth 100000 in
theorem loc_6_4_4 : locOne 6 4 4 = true := by decide +kernel
set_option maxRecDepth 100000 in
theorem loc_6_4_5 : locOne 6 4 5 = true := by decide +kernel
set_option maxRecDepth 100000 in
theorem loc_6_4_6 : locOne 6 4 6 = true := by decide +kernel
set_option maxRecDepth 100000 in
theorem loc_6_4_7 : locOne 6 4 7 = true := by decide +kernel
set_option maxRecDepth 100000 in
theorem loc_6_4_8 : locOne 6 4 8 = true := by decide +kernel
set_option maxRecDepth 100000 in
theorem loc_6_4_9 : locOne 6 4 9 = true := by decide +kernel
set_option maxRecDepth 100000 in
theorem loc_6_4_c : locCls 6 4 10 = true := by decide +kernel
set_option maxRecDepth 100000 in
theorem loc_6_5_0 : locOne 6 5 0 = true := by decide +kernel
set_option maxRecDepth 100000 in
theorem loc_6_5_1 : locOne 6 5 1 = true := by decide +kernel
set_option maxRecDepth 100000 in
theorem loc_6_5_2 : locOne 6 5 2 = true := by decide +kernel
set_option maxRecDepth 100000 in
theorem loc_6_5_3 : locOne 6 5 3 = true := by decide +kernel
set_option maxRecDepth 100000 in
theorem loc_6_5_4 : locOne 6 5 4 = true := by decide +kernel
set_option maxRecDepth 100000 in
theorem loc_6_5_5 : locOne 6 5 5 = true := by decide +kernel
set_option maxRecDepth 100000 in
theorem loc_6_5_6 : locOne 6 5 6 = true := by decide +kernel
set_option maxRecDepth 100000 in
theorem loc_6_5_7 : locOne 6 5 7 = true := by decide +kernel
set_option maxRecDepth 100000 in
theorem loc_6_5_8 : locOne 6 5 8 = true := by decide +kernel
set_option maxRecDepth 100000 in
theorem loc_6_5_9 : locOne 6 5 9 = true := by decide +kernel
set_option maxRecDepth 100000 in
theorem loc_6_5_10 : locOne 6 5 10 = true := by decide +kernel
set_option maxRecDepth 100000 in
theorem loc_6_5_c : locCls 6 5 11 = true := by decide +kernel
set_option maxRecDepth 100000 in
theorem loc_6_6_0 : locOne 6 6 0 = true := by decide +kernel
set_option maxRecDepth 100000 in
theorem loc_6_6_1 : locOne 6 6 1 = true := by decide +kernel
set_option maxRecDepth 100000 in
theorem loc_6_6_2 : locOne 6 6 2 = true := by decide +kernel
set_option maxRecDepth 100000 in
theorem loc_6_6_3 : locOne 6 6 3 = true := by decide +kernel
set_option maxRecDepth 100000 in
theorem loc_6_6_4 : locOne 6 6 4 = true := by decide +kernel
set_option maxRecDepth 100000 in
theorem loc_6_6_5 : locOne 6 6 5 = true := by decide +kernel
set_option maxRecDepth 100000 in
theorem loc_6_6_6 : locOne 6 6 6 = true := by decide +kernel
set_option maxRecDepth 100000 in
theorem loc_6_6_7 : locOne 6 6 7 = true := by decide +kernel
set_option maxRecDepth 100000 in
theorem loc_6_6_8 : locOne 6 6 8 = true := by decide +kernel
set_option maxRecDepth 100000 in
theorem loc_6_6_9 : locOne 6 6 9 = true := by decide +kernel
set_option maxRecDepth 100000 in
theorem loc_6_6_10 : locOne 6 6 10 = true := by decide +kernel
set_option maxRecDepth 100000 in
theorem loc_6_6_11 : locOne 6 6 11 = true := by decide +kernel
set_option maxRecDepth 100000 in
theorem loc_6_6_c : locCls 6 6 12 = true := by decide +kernel
set_option maxRecDepth 100000 in
theorem loc_6_7_0 : locOne 6 7 0 = true := by decide +kernel
set_option maxRecDepth 100000 in
theorem loc_6_7_1 : locOne 6 7 1 = true := by decide +kernel
set_option maxRecDepth 100000 in
theorem loc_6_7_2 : locOne 6 7 2 = true := by decide +kernel
set_option maxRecDepth 100000 in
theorem loc_6_7_3 : locOne 6 7 3 = true := by decide +kernel
set_option maxRecDepth 100000 in
theorem loc_6_7_4 : locOne 6 7 4 = true := by decide +kernel
set_option maxRecDepth 100000 in
theorem loc_6_7_5 : locOne 6 7 5 = true := by decide +kernel
set_option maxRecDepth 100000 in
theorem loc_6_7_6 : locOne 6 7 6 = true := by decide +kernel
set_option maxRecDepth 100000 in
theorem loc_6_7_7 : locOne 6 7 7 = true := by decide +kernel
set_option maxRecDepth 100000 in
theorem loc_6_7_8 : locOne 6 7 8 = true := by decide +kernel
set_option maxRecDepth 100000 in
theorem loc_6_7_9 : locOne 6 7 9 = true := by decide +kernel
set_option maxRecDepth 100000 in
theorem loc_6_7_10 : locOne 6 7 10 = true := by decide +kernel
set_option maxRecDepth 100000 in
theorem loc_6_7_11 : locOne 6 7 11 = true := by decide +kernel
set_option maxRecDepth 100000 in
theorem loc_6_7_12 : locOne 6 7 12 = true := by decide +kernel
set_option maxRecDepth 100000 in
theorem loc_6_7_c : locCls 6 7 13 = true := by decide +kernel
end Go.Proofs.Ytebgepekllelaaa
