/-
  FlowLocals: the cases of 3 parameters.
-/
import Derived.Test.YtebgepekllelaaaLawLocalsB
namespace Go.Proofs.Ytebgepekllelaaa
open Go Vx

set_option maxRecDepth 100000 in
theorem loc_3_0_0 : locOne 3 0 0 = true := by decide +kernel
set_option maxRecDepth 100000 in
theorem loc_3_0_1 : locOne 3 0 1 = true := by decide +kernel
set_option maxRecDepth 100000 in
theorem loc_3_0_2 : locOne 3 0 2 = true := by decide +kernel
set_option maxRecDepth 100000 in
theorem loc_3_0_c : locCls 3 0 3 = true := by decide +kernel
set_option maxRecDepth 100000 in
theorem loc_3_1_0 : locOne 3 1 0 = true := by decide +kernel
set_option maxRecDepth 100000 in
theorem loc_3_1_1 : locOne 3 1 1 = true := by decide +kernel
set_option maxRecDepth 100000 in
theorem loc_3_1_2 : locOne 3 1 2 = true := by decide +kernel
set_option maxRecDepth 100000 in
theorem loc_3_1_3 : locOne 3 1 3 = true := by decide +kernel
set_option maxRecDepth 100000 in
theorem loc_3_1_c : locCls 3 1 4 = true := by decide +kernel
set_option maxRecDepth 100000 in
theorem loc_3_2_0 : locOne 3 2 0 = true := by decide +kernel
set_option maxRecDepth 100000 in
theorem loc_3_2_1 : locOne 3 2 1 = true := by decide +kernel
set_option maxRecDepth 100000 in
theorem loc_3_2_2 : locOne 3 2 2 = true := by decide +kernel
set_option maxRecDepth 100000 in
theorem loc_3_2_3 : locOne 3 2 3 = true := by decide +kernel
set_option maxRecDepth 100000 in
theorem loc_3_2_4 : locOne 3 2 4 = true := by decide +kernel
set_option maxRecDepth 100000 in
theorem loc_3_2_c : locCls 3 2 5 = true := by decide +kernel
set_option maxRecDepth 100000 in
theorem loc_3_3_0 : locOne 3 3 0 = true := by decide +kernel
set_option maxRecDepth 100000 in
theorem loc_3_3_1 : locOne 3 3 1 = true := by decide +kernel
set_option maxRecDepth 100000 in
theorem loc_3_3_2 : locOne 3 3 2 = true := by decide +kernel
set_option maxRecDepth 100000 in
theorem loc_3_3_3 : locOne 3 3 3 = true := by decide +kernel
set_option maxRecDepth 100000 in
theorem loc_3_3_4 : locOne 3 3 4 = true := by decide +kernel
set_option maxRecDepth 100000 in
theorem loc_3_3_5 : locOne 3 3 5 = true := by decide +kernel
set_option maxRecDepth 100000 in
theorem loc_3_3_c : locCls 3 3 6 = true := by decide +kernel
set_option maxRecDepth 100000 in
theorem loc_3_4_0 : locOne 3 4 0 = true := by decide +kernel
set_option maxRecDepth 100000 in
theorem loc_3_4_1 : locOne 3 4 1 = true := by decide +kernel
set_option maxRecDepth 100000 in
theorem loc_3_4_2 : locOne 3 4 2 = true := by decide +kernel
set_option maxRecDepth 100000 in
theorem loc_3_4_3 : locOne 3 4 3 = true := by decide +kernel
set_option maxRecDepth 100000 in
theorem loc_3_4_4 : locOne 3 4 4 = true := by decide +kernel
set_option maxRecDepth 100000 in
theorem loc_3_4_5 : locOne 3 4 5 = true := by decide +kernel
set_option maxRecDepth 100000 in
theorem loc_3_4_6 : locOne 3 4 6 = true := by decide +kernel
set_option maxRecDepth 100000 in
theorem loc_3_4_c : locCls 3 4 7 = true := by decide +kernel
set_option maxRecDepth 100000 in
theorem loc_3_5_0 : locOne 3 5 0 = true := by decide +kernel
set_option maxRecDepth 100000 in
theorem loc_3_5_1 : locOne 3 5 1 = true := by decide +kernel
set_option maxRecDepth 100000 in
theorem loc_3_5_2 : locOne 3 5 2 = true := by decide +kernel
set_option maxRecDepth 100000 in
theorem loc_3_5_3 : locOne 3 5 3 = true := by decide +kernel
set_option maxRecDepth 100000 in
theorem loc_3_5_4 : locOne 3 5 4 = true := by decide +kernel
set_option maxRecDepth 100000 in
theorem loc_3_5_5 : locOne 3 5 5 = true := by decide +kernel
set_option maxRecDepth 100000 in
theorem loc_3_5_6 : locOne 3 5 6 = true := by decide +kernel
set_option maxRecDepth 100000 in
theorem loc_3_5_7 : locOne 3 5 7 = true := by decide +kernel
set_option maxRecDepth 100000 in
theorem loc_3_5_c : locCls 3 5 8 = true := by decide +kernel
set_option maxRecDepth 100000 in
theorem loc_3_6_0 : locOne 3 6 0 = true := by decide +kernel
set_option maxRecDepth 100000 in
theorem loc_3_6_1 : locOne 3 6 1 = true := by decide +kernel
set_option maxRecDepth 100000 in
theorem loc_3_6_2 : locOne 3 6 2 = true := by decide +kernel
set_option maxRecDepth 100000 in
theorem loc_3_6_3 : locOne 3 6 3 = true := by decide +kernel
set_option maxRecDepth 100000 in
theorem loc_3_6_4 : locOne 3 6 4 = true := by decide +kernel
set_option maxRecDepth 100000 in
theorem loc_3_6_5 : locOne 3 6 5 = true := by decide +kernel
set_option maxRecDepth 100000 in
theorem loc_3_6_6 : locOne 3 6 6 = true := by decide +kernel
set_option maxRecDepth 100000 in
theorem loc_3_6_7 : locOne 3 6 7 = true := by decide +kernel
set_option maxRecDepth 100000 in
theorem loc_3_6_8 : locOne 3 6 8 = true := by decide +kernel
set_option maxRecDepth 100000 in
theorem loc_3_6_c : locCls 3 6 9 = true := by decide +kernel
set_option maxRecDepth 100000 in
theorem loc_3_7_0 : locOne 3 7 0 = true := by decide +kernel
set_option maxRecDepth 100000 in
theorem loc_3_7_1 : locOne 3 7 1 = true := by decide +kernel
set_option maxRecDepth 100000 in
theorem loc_3_7_2 : locOne 3 7 2 = true := by decide +kernel
set_option maxRecDepth 100000 in
theorem loc_3_7_3 : locOne 3 7 3 = true := by decide +kernel
set_option maxRecDepth 100000 in
theorem loc_3_7_4 : locOne 3 7 4 = true := by decide +kernel
set_option maxRecDepth 100000 in
theorem loc_3_7_5 : locOne 3 7 5 = true := by decide +kernel
set_option maxRecDepth 100000 in
theorem loc_3_7_6 : locOne 3 7 6 = true := by decide +kernel
set_option maxRecDepth 100000 in
theorem loc_3_7_7 : locOne 3 7 7 = true := by decide +kernel
set_option maxRecDepth 100000 in
theorem loc_3_7_8 : locOne 3 7 8 = true := by decide +kernel
set_option maxRecDepth 100000 in
theorem loc_3_7_9 : locOne 3 7 9 = true := by decide +kernel
set_option maxRecDepth 100000 in
theorem loc_3_7_c : locCls 3 7 10 = true := by decide +kernel
end Go.Proofs.Ytebgepekllelaaa
