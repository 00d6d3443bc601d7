/-
  FlowHeights: cases, run (18).
-/
import Derived.Test.YtmloopjfjnjgiaaFlowRun
namespace Go.Proofs.Ytmloopjfjnjgiaa
open Go Vx

noncomputable def fhgtB18 (p : Nat) (q : Nat) : Bool := runM 4 [] [.and 0 31 p, .and 1 31 q] 3 [.int .i64 (.var 0), .int .i64 (.var 1)]
set_option maxRecDepth 100000 in
theorem fhgt_0_18 : fhgtB18 0 18 = true := by decide +kernel
set_option maxRecDepth 100000 in
theorem fhgt_1_18 : fhgtB18 1 18 = true := by decide +kernel
set_option maxRecDepth 100000 in
theorem fhgt_2_18 : fhgtB18 2 18 = true := by decide +kernel
set_option maxRecDepth 100000 in
theorem fhgt_3_18 : fhgtB18 3 18 = true := by decide +kernel
set_option maxRecDepth 100000 in
theorem fhgt_4_18 : fhgtB18 4 18 = true := by decide +kernel
set_option maxRecDepth 100000 in
theorem fhgt_5_18 : fhgtB18 5 18 = true := by decide +kernel
set_option maxRecDepth 100000 in
theorem fhgt_6_18 : fhgtB18 6 18 = true := by decide +kernel
set_option maxRecDepth 100000 in
theorem fhgt_7_18 : fhgtB18 7 18 = true := by decide +kernel
set_option maxRecDepth 100000 in
theorem fhgt_8_18 : fhgtB18 8 18 = true := by decide +kernel
set_option maxRecDepth 100000 in
theorem fhgt_9_18 : fhgtB18 9 18 = true := by decide +kernel
set_option maxRecDepth 100000 in
theorem fhgt_10_18 : fhgtB18 10 18 = true := by decide +kernel
set_option maxRecDepth 100000 in
theorem fhgt_11_18 : fhgtB18 11 18 = true := by decide +kernel
set_option maxRecDepth 100000 in
theorem fhgt_12_18 : fhgtB18 12 18 = true := by decide +kernel
set_option maxRecDepth 100000 in
theorem fhgt_13_18 : fhgtB18 13 18 = true := by decide +kernel
set_option maxRecDepth 100000 in
theorem fhgt_14_18 : fhgtB18 14 18 = true := by decide +kernel
set_option maxRecDepth 100000 in
theorem fhgt_15_18 : fhgtB18 15 18 = true := by decide +kernel
set_option maxRecDepth 100000 in
theorem fhgt_16_18 : fhgtB18 16 18 = true := by decide +kernel
set_option maxRecDepth 100000 in
theorem fhgt_17_18 : fhgtB18 17 18 = true := by decide +kernel
set_option maxRecDepth 100000 in
theorem fhgt_18_18 : fhgtB18 18 18 = true := by decide +kernel
set_option maxRecDepth 100000 in
theorem fhgt_19_18 : fhgtB18 19 18 = true := by decide +kernel
set_option maxRecDepth 100000 in
theorem fhgt_20_18 : fhgtB18 20 18 = true := by decide +kernel
set_option maxRecDepth 100000 in
theorem fhgt_21_18 : fhgtB18 21 18 = true := by decide +kernel
set_option maxRecDepth 100000 in
theorem fhgt_22_18 : fhgtB18 22 18 = true := by decide +kernel
set_option maxRecDepth 100000 in
theorem fhgt_23_18 : fhgtB18 23 18 = true := by decide +kernel
set_option maxRecDepth 100000 in
theorem fhgt_24_18 : fhgtB18 24 18 = true := by decide +kernel
set_option maxRecDepth 100000 in
theorem fhgt_25_18 : fhgtB18 25 18 = true := by decide +kernel
set_option maxRecDepth 100000 in
theorem fhgt_26_18 : fhgtB18 26 18 = true := by decide +kernel
set_option maxRecDepth 100000 in
theorem fhgt_27_18 : fhgtB18 27 18 = true := by decide +kernel
set_option maxRecDepth 100000 in
theorem fhgt_28_18 : fhgtB18 28 18 = true := by decide +kernel
set_option maxRecDepth 100000 in
theorem fhgt_29_18 : fhgtB18 29 18 = true := by decide +kernel
set_option maxRecDepth 100000 in
theorem fhgt_30_18 : fhgtB18 30 18 = true := by decide +kernel
set_option maxRecDepth 100000 in
theorem fhgt_31_18 : fhgtB18 31 18 = true := by decide +kernel
end Go.Proofs.Ytmloopjfjnjgiaa
