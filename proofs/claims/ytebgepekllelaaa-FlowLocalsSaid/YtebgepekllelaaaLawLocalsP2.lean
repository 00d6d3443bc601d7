/-
  FlowLocals: the cases of 2 parameters.
-/
import Derived.Test.YtebgepekllelaaaLawLocalsB
namespace Go.Proofs.Ytebgepekllelaaa
open Go Vx

set_option maxRecDepth 100000 in
theorem loc_2_0_0 : locOne 2 0 0 = true := by decide +kernel
set_option maxRecDepth 100000 in
theorem loc_2_0_1 : locOne 2 0 1 = true := by decide +kernel
set_option maxRecDepth 100000 in
theorem loc_2_0_c : locCls 2 0 2 = true := by decide +kernel
set_option maxRecDepth 100000 in
theorem loc_2_1_0 : locOne 2 1 0 = true := by decide +kernel
set_option maxRecDepth 100000 in
theorem loc_2_1_1 : locOne 2 1 1 = true := by decide +kernel
set_option maxRecDepth 100000 in
theorem loc_2_1_2 : locOne 2 1 2 = true := by decide +kernel
set_option maxRecDepth 100000 in
theorem loc_2_1_c : locCls 2 1 3 = true := by decide +kernel
set_option maxRecDepth 100000 in
theorem loc_2_2_0 : locOne 2 2 0 = true := by decide +kernel
set_option maxRecDepth 100000 in
theorem loc_2_2_1 : locOne 2 2 1 = true := by decide +kernel
set_option maxRecDepth 100000 in
theorem loc_2_2_2 : locOne 2 2 2 = true := by decide +kernel
set_option maxRecDepth 100000 in
theorem loc_2_2_3 : locOne 2 2 3 = true := by decide +kernel
set_option maxRecDepth 100000 in
theorem loc_2_2_c : locCls 2 2 4 = true := by decide +kernel
set_option maxRecDepth 100000 in
theorem loc_2_3_0 : locOne 2 3 0 = true := by decide +kernel
set_option maxRecDepth 100000 in
theorem loc_2_3_1 : locOne 2 3 1 = true := by decide +kernel
set_option maxRecDepth 100000 in
theorem loc_2_3_2 : locOne 2 3 2 = true := by decide +kernel
set_option maxRecDepth 100000 in
theorem loc_2_3_3 : locOne 2 3 3 = true := by decide +kernel
set_option maxRecDepth 100000 in
theorem loc_2_3_4 : locOne 2 3 4 = true := by decide +kernel
set_option maxRecDepth 100000 in
theorem loc_2_3_c : locCls 2 3 5 = true := by decide +kernel
set_option maxRecDepth 100000 in
theorem loc_2_4_0 : locOne 2 4 0 = true := by decide +kernel
set_option maxRecDepth 100000 in
theorem loc_2_4_1 : locOne 2 4 1 = true := by decide +kernel
set_option maxRecDepth 100000 in
theorem loc_2_4_2 : locOne 2 4 2 = true := by decide +kernel
set_option maxRecDepth 100000 in
theorem loc_2_4_3 : locOne 2 4 3 = true := by decide +kernel
set_option maxRecDepth 100000 in
theorem loc_2_4_4 : locOne 2 4 4 = true := by decide +kernel
set_option maxRecDepth 100000 in
theorem loc_2_4_5 : locOne 2 4 5 = true := by decide +kernel
set_option maxRecDepth 100000 in
theorem loc_2_4_c : locCls 2 4 6 = true := by decide +kernel
set_option maxRecDepth 100000 in
theorem loc_2_5_0 : locOne 2 5 0 = true := by decide +kernel
set_option maxRecDepth 100000 in
theorem loc_2_5_1 : locOne 2 5 1 = true := by decide +kernel
set_option maxRecDepth 100000 in
theorem loc_2_5_2 : locOne 2 5 2 = true := by decide +kernel
set_option maxRecDepth 100000 in
theorem loc_2_5_3 : locOne 2 5 3 = true := by decide +kernel
set_option maxRecDepth 100000 in
theorem loc_2_5_4 : locOne 2 5 4 = true := by decide +kernel
set_option maxRecDepth 100000 in
theorem loc_2_5_5 : locOne 2 5 5 = true := by decide +kernel
set_option maxRecDepth 100000 in
theorem loc_2_5_6 : locOne 2 5 6 = true := by decide +kernel
set_option maxRecDepth 100000 in
theorem loc_2_5_c : locCls 2 5 7 = true := by decide +kernel
set_option maxRecDepth 100000 in
theorem loc_2_6_0 : locOne 2 6 0 = true := by decide +kernel
set_option maxRecDepth 100000 in
theorem loc_2_6_1 : locOne 2 6 1 = true := by decide +kernel
set_option maxRecDepth 100000 in
theorem loc_2_6_2 : locOne 2 6 2 = true := by decide +kernel
set_option maxRecDepth 100000 in
theorem loc_2_6_3 : locOne 2 6 3 = true := by decide +kernel
set_option maxRecDepth 100000 in
theorem loc_2_6_4 : locOne 2 6 4 = true := by decide +kernel
set_option maxRecDepth 100000 in
theorem loc_2_6_5 : locOne 2 6 5 = true := by decide +kernel
set_option maxRecDepth 100000 in
theorem loc_2_6_6 : locOne 2 6 6 = true := by decide +kernel
set_option maxRecDepth 100000 in
theorem loc_2_6_7 : locOne 2 6 7 = true := by decide +kernel
set_option maxRecDepth 100000 in
theorem loc_2_6_c : locCls 2 6 8 = true := by decide +kernel
set_option maxRecDepth 100000 in
theorem loc_2_7_0 : locOne 2 7 0 = true := by decide +kernel
set_option maxRecDepth 100000 in
theorem loc_2_7_1 : locOne 2 7 1 = true := by decide +kernel
set_option maxRecDepth 100000 in
theorem loc_2_7_2 : locOne 2 7 2 = true := by decide +kernel
set_option maxRecDepth 100000 in
theorem loc_2_7_3 : locOne 2 7 3 = true := by decide +kernel
set_option maxRecDepth 100000 in
theorem loc_2_7_4 : locOne 2 7 4 = true := by decide +kernel
set_option maxRecDepth 100000 in
theorem loc_2_7_5 : locOne 2 7 5 = true := by decide +kernel
set_option maxRecDepth 100000 in
theorem loc_2_7_6 : locOne 2 7 6 = true := by decide +kernel
set_option maxRecDepth 100000 in
theorem loc_2_7_7 : locOne 2 7 7 = true := by decide +kernel
set_option maxRecDepth 100000 in
theorem loc_2_7_8 : locOne 2 7 8 = true := by decide +kernel
set_option maxRecDepth 100000 in
theorem loc_2_7_c : locCls 2 7 9 = true := by decide +kernel
end Go.Proofs.Ytebgepekllelaaa
