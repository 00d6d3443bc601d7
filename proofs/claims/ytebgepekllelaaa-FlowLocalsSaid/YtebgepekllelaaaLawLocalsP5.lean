/-
  FlowLocals: the cases of 5 parameters.
-/
import Derived.Test.YtebgepekllelaaaLawLocalsB
namespace Go.Proofs.Ytebgepekllelaaa
open Go Vx

set_option maxRecDepth 100000 in
theorem loc_5_0_0 : locOne 5 0 0 = true := by decide +kernel
set_option maxRecDepth 100000 in
theorem loc_5_0_1 : locOne 5 0 1 = true := by decide +kernel
set_option maxRecDepth 100000 in
theorem loc_5_0_2 : locOne 5 0 2 = true := by decide +kernel
set_option maxRecDepth 100000 in
theorem loc_5_0_3 : locOne 5 0 3 = true := by decide +kernel
set_option maxRecDepth 100000 in
theorem loc_5_0_4 : locOne 5 0 4 = true := by decide +kernel
set_option maxRecDepth 100000 in
theorem loc_5_0_c : locCls 5 0 5 = true := by decide +kernel
set_option maxRecDepth 100000 in
theorem loc_5_1_0 : locOne 5 1 0 = true := by decide +kernel
set_option maxRecDepth 100000 in
theorem loc_5_1_1 : locOne 5 1 1 = true := by decide +kernel
set_option maxRecDepth 100000 in
theorem loc_5_1_2 : locOne 5 1 2 = true := by decide +kernel
set_option maxRecDepth 100000 in
theorem loc_5_1_3 : locOne 5 1 3 = true := by decide +kernel
set_option maxRecDepth 100000 in
theorem loc_5_1_4 : locOne 5 1 4 = true := by decide +kernel
set_option maxRecDepth 100000 in
theorem loc_5_1_5 : locOne 5 1 5 = true := by decide +kernel
set_option maxRecDepth 100000 in
theorem loc_5_1_c : locCls 5 1 6 = true := by decide +kernel
set_option maxRecDepth 100000 in
theorem loc_5_2_0 : locOne 5 2 0 = true := by decide +kernel
set_option maxRecDepth 100000 in
theorem loc_5_2_1 : locOne 5 2 1 = true := by decide +kernel
set_option maxRecDepth 100000 in
theorem loc_5_2_2 : locOne 5 2 2 = true := by decide +kernel
set_option maxRecDepth 100000 in
theorem loc_5_2_3 : locOne 5 2 3 = true := by decide +kernel
set_option maxRecDepth 100000 in
theorem loc_5_2_4 : locOne 5 2 4 = true := by decide +kernel
set_option maxRecDepth 100000 in
theorem loc_5_2_5 : locOne 5 2 5 = true := by decide +kernel
set_option maxRecDepth 100000 in
theorem loc_5_2_6 : locOne 5 2 6 = true := by decide +kernel
set_option maxRecDepth 100000 in
theorem loc_5_2_c : locCls 5 2 7 = true := by decide +kernel
set_option maxRecDepth 100000 in
theorem loc_5_3_0 : locOne 5 3 0 = true := by decide +kernel
set_option maxRecDepth 100000 in
theorem loc_5_3_1 : locOne 5 3 1 = true := by decide +kernel
set_option maxRecDepth 100000 in
theorem loc_5_3_2 : locOne 5 3 2 = true := by decide +kernel
set_option maxRecDepth 100000 in
theorem loc_5_3_3 : locOne 5 3 3 = true := by decide +kernel
set_option maxRecDepth 100000 in
theorem loc_5_3_4 : locOne 5 3 4 = true := by decide +kernel
set_option maxRecDepth 100000 in
theorem loc_5_3_5 : locOne 5 3 5 = true := by decide +kernel
set_option maxRecDepth 100000 in
theorem loc_5_3_6 : locOne 5 3 6 = true := by decide +kernel
set_option maxRecDepth 100000 in
theorem loc_5_3_7 : locOne 5 3 7 = true := by decide +kernel
set_option maxRecDepth 100000 in
theorem loc_5_3_c : locCls 5 3 8 = true := by decide +kernel
set_option maxRecDepth 100000 in
theorem loc_5_4_0 : locOne 5 4 0 = true := by decide +kernel
set_option maxRecDepth 100000 in
theorem loc_5_4_1 : locOne 5 4 1 = true := by decide +kernel
set_option maxRecDepth 100000 in
theorem loc_5_4_2 : locOne 5 4 2 = true := by decide +kernel
set_option maxRecDepth 100000 in
theorem loc_5_4_3 : locOne 5 4 3 = true := by decide +kernel
set_option maxRecDepth 100000 in
theorem loc_5_4_4 : locOne 5 4 4 = true := by decide +kernel
set_option maxRecDepth 100000 in
theorem loc_5_4_5 : locOne 5 4 5 = true := by decide +kernel
set_option maxRecDepth 100000 in
theorem loc_5_4_6 : locOne 5 4 6 = true := by decide +kernel
set_option maxRecDepth 100000 in
theorem loc_5_4_7 : locOne 5 4 7 = true := by decide +kernel
set_option maxRecDepth 100000 in
theorem loc_5_4_8 : locOne 5 4 8 = true := by decide +kernel
set_option maxRecDepth 100000 in
theorem loc_5_4_c : locCls 5 4 9 = true := by decide +kernel
set_option maxRecDepth 100000 in
theorem loc_5_5_0 : locOne 5 5 0 = true := by decide +kernel
set_option maxRecDepth 100000 in
theorem loc_5_5_1 : locOne 5 5 1 = true := by decide +kernel
set_option maxRecDepth 100000 in
theorem loc_5_5_2 : locOne 5 5 2 = true := by decide +kernel
set_option maxRecDepth 100000 in
theorem loc_5_5_3 : locOne 5 5 3 = true := by decide +kernel
set_option maxRecDepth 100000 in
theorem loc_5_5_4 : locOne 5 5 4 = true := by decide +kernel
set_option maxRecDepth 100000 in
theorem loc_5_5_5 : locOne 5 5 5 = true := by decide +kernel
set_option maxRecDepth 100000 in
theorem loc_5_5_6 : locOne 5 5 6 = true := by decide +kernel
set_option maxRecDepth 100000 in
theorem loc_5_5_7 : locOne 5 5 7 = true := by decide +kernel
set_option maxRecDepth 100000 in
theorem loc_5_5_8 : locOne 5 5 8 = true := by decide +kernel
set_option maxRecDepth 100000 in
theorem loc_5_5_9 : locOne 5 5 9 = true := by decide +kernel
set_option maxRecDepth 100000 in
theorem loc_5_5_c : locCls 5 5 10 = true := by decide +kernel
set_option maxRecDepth 100000 in
theorem loc_5_6_0 : locOne 5 6 0 = true := by decide +kernel
set_option maxRecDepth 100000 in
theorem loc_5_6_1 : locOne 5 6 1 = true := by decide +kernel
set_option maxRecDepth 100000 in
theorem loc_5_6_2 : locOne 5 6 2 = true := by decide +kernel
set_option maxRecDepth 100000 in
theorem loc_5_6_3 : locOne 5 6 3 = true := by decide +kernel
set_option maxRecDepth 100000 in
theorem loc_5_6_4 : locOne 5 6 4 = true := by decide +kernel
set_option maxRecDepth 100000 in
theorem loc_5_6_5 : locOne 5 6 5 = true := by decide +kernel
set_option maxRecDepth 100000 in
theorem loc_5_6_6 : locOne 5 6 6 = true := by decide +kernel
set_option maxRecDepth 100000 in
theorem loc_5_6_7 : locOne 5 6 7 = true := by decide +kernel
set_option maxRecDepth 100000 in
theorem loc_5_6_8 : locOne 5 6 8 = true := by decide +kernel
set_option maxRecDepth 100000 in
theorem loc_5_6_9 : locOne 5 6 9 = true := by decide +kernel
set_option maxRecDepth 100000 in
theorem loc_5_6_10 : locOne 5 6 10 = true := by decide +kernel
set_option maxRecDepth 100000 in
theorem loc_5_6_c : locCls 5 6 11 = true := by decide +kernel
set_option maxRecDepth 100000 in
theorem loc_5_7_0 : locOne 5 7 0 = true := by decide +kernel
set_option maxRecDepth 100000 in
theorem loc_5_7_1 : locOne 5 7 1 = true := by decide +kernel
set_option maxRecDepth 100000 in
theorem loc_5_7_2 : locOne 5 7 2 = true := by decide +kernel
set_option maxRecDepth 100000 in
theorem loc_5_7_3 : locOne 5 7 3 = true := by decide +kernel
set_option maxRecDepth 100000 in
theorem loc_5_7_4 : locOne 5 7 4 = true := by decide +kernel
set_option maxRecDepth 100000 in
theorem loc_5_7_5 : locOne 5 7 5 = true := by decide +kernel
set_option maxRecDepth 100000 in
theorem loc_5_7_6 : locOne 5 7 6 = true := by decide +kernel
set_option maxRecDepth 100000 in
theorem loc_5_7_7 : locOne 5 7 7 = true := by decide +kernel
set_option maxRecDepth 100000 in
theorem loc_5_7_8 : locOne 5 7 8 = true := by decide +kernel
set_option maxRecDepth 100000 in
theorem loc_5_7_9 : locOne 5 7 9 = true := by decide +kernel
set_option maxRecDepth 100000 in
theorem loc_5_7_10 : locOne 5 7 10 = true := by decide +kernel
set_option maxRecDepth 100000 in
theorem loc_5_7_11 : locOne 5 7 11 = true := by decide +kernel
set_option maxRecDepth 100000 in
theorem loc_5_7_c : locCls 5 7 12 = true := by decide +kernel
end Go.Proofs.Ytebgepekllelaaa
