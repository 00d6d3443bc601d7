/-
  FlowHeights: cases, run (25).
-/
import Derived.Test.YtmloopjfjnjgiaaFlowRun
namespace Go.Proofs.Ytmloopjfjnjgiaa
open Go Vx

noncomputable def fhgtB25 (p : Nat) (q : Nat) : Bool := runM 4 [] [.and 0 31 p, .and 1 31 q] 3 [.int .i64 (.var 0), .int .i64 (.var 1)]
set_option maxRecDepth 100000 in
theorem fhgt_0_25 : fhgtB25 0 25 = true := by decide +kernel
set_option maxRecDepth 100000 in
theorem fhgt_1_25 : fhgtB25 1 25 = true := by decide +kernel
set_option maxRecDepth 100000 in
theorem fhgt_2_25 : fhgtB25 2 25 = true := by decide +kernel
set_option maxRecDepth 100000 in
theorem fhgt_3_25 : fhgtB25 3 25 = true := by decide +kernel
set_option maxRecDepth 100000 in
theorem fhgt_4_25 : fhgtB25 4 25 = true := by decide +kernel
set_option maxRecDepth 100000 in
theorem fhgt_5_25 : fhgtB25 5 25 = true := by decide +kernel
set_option maxRecDepth 100000 in
theorem fhgt_6_25 : fhgtB25 6 25 = true := by decide +kernel
set_option maxRecDepth 100000 in
theorem fhgt_7_25 : fhgtB25 7 25 = true := by decide +kernel
set_option maxRecDepth 100000 in
theorem fhgt_8_25 : fhgtB25 8 25 = true := by decide +kernel
set_option maxRecDepth 100000 in
theorem fhgt_9_25 : fhgtB25 9 25 = true := by decide +kernel
set_option maxRecDepth 100000 in
theorem fhgt_10_25 : fhgtB25 10 25 = true := by decide +kernel
set_option maxRecDepth 100000 in
theorem fhgt_11_25 : fhgtB25 11 25 = true := by decide +kernel
set_option maxRecDepth 100000 in
theorem fhgt_12_25 : fhgtB25 12 25 = true := by decide +kernel
set_option maxRecDepth 100000 in
theorem fhgt_13_25 : fhgtB25 13 25 = true := by decide +kernel
set_option maxRecDepth 100000 in
theorem fhgt_14_25 : fhgtB25 14 25 = true := by decide +kernel
set_option maxRecDepth 100000 in
theorem fhgt_15_25 : fhgtB25 15 25 = true := by decide +kernel
set_option maxRecDepth 100000 in
theorem fhgt_16_25 : fhgtB25 16 25 = true := by decide +kernel
set_option maxRecDepth 100000 in
theorem fhgt_17_25 : fhgtB25 17 25 = true := by decide +kernel
set_option maxRecDepth 100000 in
theorem fhgt_18_25 : fhgtB25 18 25 = true := by decide +kernel
set_option maxRecDepth 100000 in
theorem fhgt_19_25 : fhgtB25 19 25 = true := by decide +kernel
set_option maxRecDepth 100000 in
theorem fhgt_20_25 : fhgtB25 20 25 = true := by decide +kernel
set_option maxRecDepth 100000 in
theorem fhgt_21_25 : fhgtB25 21 25 = true := by decide +kernel
set_option maxRecDepth 100000 in
theorem fhgt_22_25 : fhgtB25 22 25 = true := by decide +kernel
set_option maxRecDepth 100000 in
theorem fhgt_23_25 : fhgtB25 23 25 = true := by decide +kernel
set_option maxRecDepth 100000 in
theorem fhgt_24_25 : fhgtB25 24 25 = true := by decide +kernel
set_option maxRecDepth 100000 in
theorem fhgt_25_25 : fhgtB25 25 25 = true := by decide +kernel
set_option maxRecDepth 100000 in
theorem fhgt_26_25 : fhgtB25 26 25 = true := by decide +kernel
set_option maxRecDepth 100000 in
theorem fhgt_27_25 : fhgtB25 27 25 = true := by decide +kernel
set_option maxRecDepth 100000 in
theorem fhgt_28_25 : fhgtB25 28 25 = true := by decide +kernel
set_option maxRecDepth 100000 in
theorem fhgt_29_25 : fhgtB25 29 25 = true := by decide +kernel
set_option maxRecDepth 100000 in
theorem fhgt_30_25 : fhgtB25 30 25 = true := by decide +kernel
set_option maxRecDepth 100000 in
theorem fhgt_31_25 : fhgtB25 31 25 = true := by decide +kernel
end Go.Proofs.Ytmloopjfjnjgiaa
