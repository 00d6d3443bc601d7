/-
  FlowLocals: the cases of 1 parameters.
-/
import Derived.Test.YtebgepekllelaaaLawLocalsB
namespace Go.Proofs.Ytebgepekllelaaa
open Go Vx

set_option maxRecDepth 100000 in
theorem loc_1_0_0 : locOne 1 0 0 = true := by decide +kernel
set_option maxRecDepth 100000 in
theorem loc_1_0_c : locCls 1 0 1 = true := by decide +kernel
set_option maxRecDepth 100000 in
theorem loc_1_1_0 : locOne 1 1 0 = true := by decide +kernel
set_option maxRecDepth 100000 in
theorem loc_1_1_1 : locOne 1 1 1 = true := by decide +kernel
set_option maxRecDepth 100000 in
theorem loc_1_1_c : locCls 1 1 2 = true := by decide +kernel
set_option maxRecDepth 100000 in
theorem loc_1_2_0 : locOne 1 2 0 = true := by decide +kernel
set_option maxRecDepth 100000 in
theorem loc_1_2_1 : locOne 1 2 1 = true := by decide +kernel
set_option maxRecDepth 100000 in
theorem loc_1_2_2 : locOne 1 2 2 = true := by decide +kernel
set_option maxRecDepth 100000 in
theorem loc_1_2_c : locCls 1 2 3 = true := by decide +kernel
set_option maxRecDepth 100000 in
theorem loc_1_3_0 : locOne 1 3 0 = true := by decide +kernel
set_option maxRecDepth 100000 in
theorem loc_1_3_1 : locOne 1 3 1 = true := by decide +kernel
set_option maxRecDepth 100000 in
theorem loc_1_3_2 : locOne 1 3 2 = true := by decide +kernel
set_option maxRecDepth 100000 in
theorem loc_1_3_3 : locOne 1 3 3 = true := by decide +kernel
set_option maxRecDepth 100000 in
theorem loc_1_3_c : locCls 1 3 4 = true := by decide +kernel
set_option maxRecDepth 100000 in
theorem loc_1_4_0 : locOne 1 4 0 = true := by decide +kernel
set_option maxRecDepth 100000 in
theorem loc_1_4_1 : locOne 1 4 1 = true := by decide +kernel
set_option maxRecDepth 100000 in
theorem loc_1_4_2 : locOne 1 4 2 = true := by decide +kernel
set_option maxRecDepth 100000 in
theorem loc_1_4_3 : locOne 1 4 3 = true := by decide +kernel
set_option maxRecDepth 100000 in
theorem loc_1_4_4 : locOne 1 4 4 = true := by decide +kernel
set_option maxRecDepth 100000 in
theorem loc_1_4_c : locCls 1 4 5 = true := by decide +kernel
set_option maxRecDepth 100000 in
theorem loc_1_5_0 : locOne 1 5 0 = true := by decide +kernel
set_option maxRecDepth 100000 in
theorem loc_1_5_1 : locOne 1 5 1 = true := by decide +kernel
set_option maxRecDepth 100000 in
theorem loc_1_5_2 : locOne 1 5 2 = true := by decide +kernel
set_option maxRecDepth 100000 in
theorem loc_1_5_3 : locOne 1 5 3 = true := by decide +kernel
set_option maxRecDepth 100000 in
theorem loc_1_5_4 : locOne 1 5 4 = true := by decide +kernel
set_option maxRecDepth 100000 in
theorem loc_1_5_5 : locOne 1 5 5 = true := by decide +kernel
set_option maxRecDepth 100000 in
theorem loc_1_5_c : locCls 1 5 6 = true := by decide +kernel
set_option maxRecDepth 100000 in
theorem loc_1_6_0 : locOne 1 6 0 = true := by decide +kernel
set_option maxRecDepth 100000 in
theorem loc_1_6_1 : locOne 1 6 1 = true := by decide +kernel
set_option maxRecDepth 100000 in
theorem loc_1_6_2 : locOne 1 6 2 = true := by decide +kernel
set_option maxRecDepth 100000 in
theorem loc_1_6_3 : locOne 1 6 3 = true := by decide +kernel
set_option maxRecDepth 100000 in
theorem loc_1_6_4 : locOne 1 6 4 = true := by decide +kernel
set_option maxRecDepth 100000 in
theorem loc_1_6_5 : locOne 1 6 5 = true := by decide +kernel
set_option maxRecDepth 100000 in
theorem loc_1_6_6 : locOne 1 6 6 = true := by decide +kernel
set_option maxRecDepth 100000 in
theorem loc_1_6_c : locCls 1 6 7 = true := by decide +kernel
set_option maxRecDepth 100000 in
theorem loc_1_7_0 : locOne 1 7 0 = true := by decide +kernel
set_option maxRecDepth 100000 in
theorem loc_1_7_1 : locOne 1 7 1 = true := by decide +kernel
set_option maxRecDepth 100000 in
theorem loc_1_7_2 : locOne 1 7 2 = true := by decide +kernel
set_option maxRecDepth 100000 in
theorem loc_1_7_3 : locOne 1 7 3 = true := by decide +kernel
set_option maxRecDepth 100000 in
theorem loc_1_7_4 : locOne 1 7 4 = true := by decide +kernel
set_option maxRecDepth 100000 in
theorem loc_1_7_5 : locOne 1 7 5 = true := by decide +kernel
set_option maxRecDepth 100000 in
theorem loc_1_7_6 : locOne 1 7 6 = true := by decide +kernel
set_option maxRecDepth 100000 in
theorem loc_1_7_7 : locOne 1 7 7 = true := by decide +kernel
set_option maxRecDepth 100000 in
theorem loc_1_7_c : locCls 1 7 8 = true := by decide +kernel
end Go.Proofs.Ytebgepekllelaaa
