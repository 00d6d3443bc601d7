/-
  FlowLocals: the cases of 0 parameters.
-/
import Derived.Test.YtebgepekllelaaaLawLocalsB
namespace Go.Proofs.Ytebgepekllelaaa
open Go Vx

set_option maxRecDepth 100000 in
theorem loc_0_0_0 : locOne 0 0 0 = true := by decide +kernel
set_option maxRecDepth 100000 in
theorem loc_0_0_c : locCls 0 0 1 = true := by decide +kernel
set_option maxRecDepth 100000 in
theorem loc_0_1_0 : locOne 0 1 0 = true := by decide +kernel
set_option maxRecDepth 100000 in
theorem loc_0_1_c : locCls 0 1 1 = true := by decide +kernel
set_option maxRecDepth 100000 in
theorem loc_0_2_0 : locOne 0 2 0 = true := by decide +kernel
set_option maxRecDepth 100000 in
theorem loc_0_2_1 : locOne 0 2 1 = true := by decide +kernel
set_option maxRecDepth 100000 in
theorem loc_0_2_c : locCls 0 2 2 = true := by decide +kernel
set_option maxRecDepth 100000 in
theorem loc_0_3_0 : locOne 0 3 0 = true := by decide +kernel
set_option maxRecDepth 100000 in
theorem loc_0_3_1 : locOne 0 3 1 = true := by decide +kernel
set_option maxRecDepth 100000 in
theorem loc_0_3_2 : locOne 0 3 2 = true := by decide +kernel
set_option maxRecDepth 100000 in
theorem loc_0_3_c : locCls 0 3 3 = true := by decide +kernel
set_option maxRecDepth 100000 in
theorem loc_0_4_0 : locOne 0 4 0 = true := by decide +kernel
set_option maxRecDepth 100000 in
theorem loc_0_4_1 : locOne 0 4 1 = true := by decide +kernel
set_option maxRecDepth 100000 in
theorem loc_0_4_2 : locOne 0 4 2 = true := by decide +kernel
set_option maxRecDepth 100000 in
theorem loc_0_4_3 : locOne 0 4 3 = true := by decide +kernel
set_option maxRecDepth 100000 in
theorem loc_0_4_c : locCls 0 4 4 = true := by decide +kernel
set_option maxRecDepth 100000 in
theorem loc_0_5_0 : locOne 0 5 0 = true := by decide +kernel
set_option maxRecDepth 100000 in
theorem loc_0_5_1 : locOne 0 5 1 = true := by decide +kernel
set_option maxRecDepth 100000 in
theorem loc_0_5_2 : locOne 0 5 2 = true := by decide +kernel
set_option maxRecDepth 100000 in
theorem loc_0_5_3 : locOne 0 5 3 = true := by decide +kernel
set_option maxRecDepth 100000 in
theorem loc_0_5_4 : locOne 0 5 4 = true := by decide +kernel
set_option maxRecDepth 100000 in
theorem loc_0_5_c : locCls 0 5 5 = true := by decide +kernel
set_option maxRecDepth 100000 in
theorem loc_0_6_0 : locOne 0 6 0 = true := by decide +kernel
set_option maxRecDepth 100000 in
theorem loc_0_6_1 : locOne 0 6 1 = true := by decide +kernel
set_option maxRecDepth 100000 in
theorem loc_0_6_2 : locOne 0 6 2 = true := by decide +kernel
set_option maxRecDepth 100000 in
theorem loc_0_6_3 : locOne 0 6 3 = true := by decide +kernel
set_option maxRecDepth 100000 in
theorem loc_0_6_4 : locOne 0 6 4 = true := by decide +kernel
set_option maxRecDepth 100000 in
theorem loc_0_6_5 : locOne 0 6 5 = true := by decide +kernel
set_option maxRecDepth 100000 in
theorem loc_0_6_c : locCls 0 6 6 = true := by decide +kernel
set_option maxRecDepth 100000 in
theorem loc_0_7_0 : locOne 0 7 0 = true := by decide +kernel
set_option maxRecDepth 100000 in
theorem loc_0_7_1 : locOne 0 7 1 = true := by decide +kernel
set_option maxRecDepth 100000 in
theorem loc_0_7_2 : locOne 0 7 2 = true := by decide +kernel
set_option maxRecDepth 100000 in
theorem loc_0_7_3 : locOne 0 7 3 = true := by decide +kernel
set_option maxRecDepth 100000 in
theorem loc_0_7_4 : locOne 0 7 4 = true := by decide +kernel
set_option maxRecDepth 100000 in
theorem loc_0_7_5 : locOne 0 7 5 = true := by decide +kernel
set_option maxRecDepth 100000 in
theorem loc_0_7_6 : locOne 0 7 6 = true := by decide +kernel
set_option maxRecDepth 100000 in
theorem loc_0_7_c : locCls 0 7 7 = true := by decide +kernel
end Go.Proofs.Ytebgepekllelaaa
