/-
  FlowLocals: the cases of 4 parameters.
-/
import Derived.Test.YtebgepekllelaaaLawLocalsB
namespace Go.Proofs.Ytebgepekllelaaa
open Go Vx

set_option maxRecDepth 100000 in
theorem loc_4_0_0 : locOne 4 0 0 = true := by decide +kernel
set_option maxRecDepth 100000 in
theorem loc_4_0_1 : locOne 4 0 1 = true := by decide +kernel
set_option maxRecDepth 100000 in
theorem loc_4_0_2 : locOne 4 0 2 = true := by decide +kernel
set_option maxRecDepth 100000 in
theorem loc_4_0_3 : locOne 4 0 3 = true := by decide +kernel
set_option maxRecDepth 100000 in
theorem loc_4_0_c : locCls 4 0 4 = true := by decide +kernel
set_option maxRecDepth 100000 in
theorem loc_4_1_0 : locOne 4 1 0 = true := by decide +kernel
set_option maxRecDepth 100000 in
theorem loc_4_1_1 : locOne 4 1 1 = true := by decide +kernel
set_option maxRecDepth 100000 in
theorem loc_4_1_2 : locOne 4 1 2 = true := by decide +kernel
set_option maxRecDepth 100000 in
theorem loc_4_1_3 : locOne 4 1 3 = true := by decide +kernel
set_option maxRecDepth 100000 in
theorem loc_4_1_4 : locOne 4 1 4 = true := by decide +kernel
set_option maxRecDepth 100000 in
theorem loc_4_1_c : locCls 4 1 5 = true := by decide +kernel
set_option maxRecDepth 100000 in
theorem loc_4_2_0 : locOne 4 2 0 = true := by decide +kernel
set_option maxRecDepth 100000 in
theorem loc_4_2_1 : locOne 4 2 1 = true := by decide +kernel
set_option maxRecDepth 100000 in
theorem loc_4_2_2 : locOne 4 2 2 = true := by decide +kernel
set_option maxRecDepth 100000 in
theorem loc_4_2_3 : locOne 4 2 3 = true := by decide +kernel
set_option maxRecDepth 100000 in
theorem loc_4_2_4 : locOne 4 2 4 = true := by decide +kernel
set_option maxRecDepth 100000 in
theorem loc_4_2_5 : locOne 4 2 5 = true := by decide +kernel
set_option maxRecDepth 100000 in
theorem loc_4_2_c : locCls 4 2 6 = true := by decide +kernel
set_option maxRecDepth 100000 in
theorem loc_4_3_0 : locOne 4 3 0 = true := by decide +kernel
set_option maxRecDepth 100000 in
theorem loc_4_3_1 : locOne 4 3 1 = true := by decide +kernel
set_option maxRecDepth 100000 in
theorem loc_4_3_2 : locOne 4 3 2 = true := by decide +kernel
set_option maxRecDepth 100000 in
theorem loc_4_3_3 : locOne 4 3 3 = true := by decide +kernel
set_option maxRecDepth 100000 in
theorem loc_4_3_4 : locOne 4 3 4 = true := by decide +kernel
set_option maxRecDepth 100000 in
theorem loc_4_3_5 : locOne 4 3 5 = true := by decide +kernel
set_option maxRecDepth 100000 in
theorem loc_4_3_6 : locOne 4 3 6 = true := by decide +kernel
set_option maxRecDepth 100000 in
theorem loc_4_3_c : locCls 4 3 7 = true := by decide +kernel
set_option maxRecDepth 100000 in
theorem loc_4_4_0 : locOne 4 4 0 = true := by decide +kernel
set_option maxRecDepth 100000 in
theorem loc_4_4_1 : locOne 4 4 1 = true := by decide +kernel
set_option maxRecDepth 100000 in
theorem loc_4_4_2 : locOne 4 4 2 = true := by decide +kernel
set_option maxRecDepth 100000 in
theorem loc_4_4_3 : locOne 4 4 3 = true := by decide +kernel
set_option maxRecDepth 100000 in
theorem loc_4_4_4 : locOne 4 4 4 = true := by decide +kernel
set_option maxRecDepth 100000 in
theorem loc_4_4_5 : locOne 4 4 5 = true := by decide +kernel
set_option maxRecDepth 100000 in
theorem loc_4_4_6 : locOne 4 4 6 = true := by decide +kernel
set_option maxRecDepth 100000 in
theorem loc_4_4_7 : locOne 4 4 7 = true := by decide +kernel
set_option maxRecDepth 100000 in
theorem loc_4_4_c : locCls 4 4 8 = true := by decide +kernel
set_option maxRecDepth 100000 in
theorem loc_4_5_0 : locOne 4 5 0 = true := by decide +kernel
set_option maxRecDepth 100000 in
theorem loc_4_5_1 : locOne 4 5 1 = true := by decide +kernel
set_option maxRecDepth 100000 in
theorem loc_4_5_2 : locOne 4 5 2 = true := by decide +kernel
set_option maxRecDepth 100000 in
theorem loc_4_5_3 : locOne 4 5 3 = true := by decide +kernel
set_option maxRecDepth 100000 in
theorem loc_4_5_4 : locOne 4 5 4 = true := by decide +kernel
set_option maxRecDepth 100000 in
theorem loc_4_5_5 : locOne 4 5 5 = true := by decide +kernel
set_option maxRecDepth 100000 in
theorem loc_4_5_6 : locOne 4 5 6 = true := by decide +kernel
set_option maxRecDepth 100000 in
theorem loc_4_5_7 : locOne 4 5 7 = true := by decide +kernel
set_option maxRecDepth 100000 in
theorem loc_4_5_8 : locOne 4 5 8 = true := by decide +kernel
set_option maxRecDepth 100000 in
theorem loc_4_5_c : locCls 4 5 9 = true := by decide +kernel
set_option maxRecDepth 100000 in
theorem loc_4_6_0 : locOne 4 6 0 = true := by decide +kernel
set_option maxRecDepth 100000 in
theorem loc_4_6_1 : locOne 4 6 1 = true := by decide +kernel
set_option maxRecDepth 100000 in
theorem loc_4_6_2 : locOne 4 6 2 = true := by decide +kernel
set_option maxRecDepth 100000 in
theorem loc_4_6_3 : locOne 4 6 3 = true := by decide +kernel
set_option maxRecDepth 100000 in
theorem loc_4_6_4 : locOne 4 6 4 = true := by decide +kernel
set_option maxRecDepth 100000 in
theorem loc_4_6_5 : locOne 4 6 5 = true := by decide +kernel
set_option maxRecDepth 100000 in
theorem loc_4_6_6 : locOne 4 6 6 = true := by decide +kernel
set_option maxRecDepth 100000 in
theorem loc_4_6_7 : locOne 4 6 7 = true := by decide +kernel
set_option maxRecDepth 100000 in
theorem loc_4_6_8 : locOne 4 6 8 = true := by decide +kernel
set_option maxRecDepth 100000 in
theorem loc_4_6_9 : locOne 4 6 9 = true := by decide +kernel
set_option maxRecDepth 100000 in
theorem loc_4_6_c : locCls 4 6 10 = true := by decide +kernel
set_option maxRecDepth 100000 in
theorem loc_4_7_0 : locOne 4 7 0 = true := by decide +kernel
set_option maxRecDepth 100000 in
theorem loc_4_7_1 : locOne 4 7 1 = true := by decide +kernel
set_option maxRecDepth 100000 in
theorem loc_4_7_2 : locOne 4 7 2 = true := by decide +kernel
set_option maxRecDepth 100000 in
theorem loc_4_7_3 : locOne 4 7 3 = true := by decide +kernel
set_option maxRecDepth 100000 in
theorem loc_4_7_4 : locOne 4 7 4 = true := by decide +kernel
set_option maxRecDepth 100000 in
theorem loc_4_7_5 : locOne 4 7 5 = true := by decide +kernel
set_option maxRecDepth 100000 in
theorem loc_4_7_6 : locOne 4 7 6 = true := by decide +kernel
set_option maxRecDepth 100000 in
theorem loc_4_7_7 : locOne 4 7 7 = true := by decide +kernel
set_option maxRecDepth 100000 in
theorem loc_4_7_8 : locOne 4 7 8 = true := by decide +kernel
set_option maxRecDepth 100000 in
theorem loc_4_7_9 : locOne 4 7 9 = true := by decide +kernel
set_option maxRecDepth 100000 in
theorem loc_4_7_10 : locOne 4 7 10 = true := by decide +kernel
set_option maxRecDepth 100000 in
theorem loc_4_7_c : locCls 4 7 11 = true := by decide +kernel
end Go.Proofs.Ytebgepekllelaaa
