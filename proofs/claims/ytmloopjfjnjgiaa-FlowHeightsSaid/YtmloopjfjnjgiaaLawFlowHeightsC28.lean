/-
  FlowHeights: cases, run (28).
-/
import Derived.Test.YtmloopjfjnjgiaaFlowRun
namespace Go.Proofs.Ytmloopjfjnjgiaa
open Go Vx

noncomputable def fhgtB28 (p : Nat) (q : Nat) : Bool := runM 4 [] [.and 0 31 p, .and 1 31 q] 3 [.int .i64 (.var 0), .int .i64 (.var 1)]
set_option maxRecDepth 100000 in
theorem fhgt_0_28 : fhgtB28 0 28 = true := by decide +kernel
set_option maxRecDepth 100000 in
theorem fhgt_1_28 : fhgtB28 1 28 = true := by decide +kernel
set_option maxRecDepth 100000 in
theorem fhgt_2_28 : fhgtB28 2 28 = true := by decide +kernel
set_option maxRecDepth 100000 in
theorem fhgt_3_28 : fhgtB28 3 28 = true := by decide +kernel
set_option maxRecDepth 100000 in
theorem fhgt_4_28 : fhgtB28 4 28 = true := by decide +kernel
set_option maxRecDepth 100000 in
theorem fhgt_5_28 : fhgtB28 5 28 = true := by decide +kernel
set_option maxRecDepth 100000 in
theorem fhgt_6_28 : fhgtB28 6 28 = true := by decide +kernel
set_option maxRecDepth 100000 in
theorem fhgt_7_28 : fhgtB28 7 28 = true := by decide +kernel
set_option maxRecDepth 100000 in
theorem fhgt_8_28 : fhgtB28 8 28 = true := by decide +kernel
set_option maxRecDepth 100000 in
theorem fhgt_9_28 : fhgtB28 9 28 = true := by decide +kernel
set_option maxRecDepth 100000 in
theorem fhgt_10_28 : fhgtB28 10 28 = true := by decide +kernel
set_option maxRecDepth 100000 in
theorem fhgt_11_28 : fhgtB28 11 28 = true := by decide +kernel
set_option maxRecDepth 100000 in
theorem fhgt_12_28 : fhgtB28 12 28 = true := by decide +kernel
set_option maxRecDepth 100000 in
theorem fhgt_13_28 : fhgtB28 13 28 = true := by decide +kernel
set_option maxRecDepth 100000 in
theorem fhgt_14_28 : fhgtB28 14 28 = true := by decide +kernel
set_option maxRecDepth 100000 in
theorem fhgt_15_28 : fhgtB28 15 28 = true := by decide +kernel
set_option maxRecDepth 100000 in
theorem fhgt_16_28 : fhgtB28 16 28 = true := by decide +kernel
set_option maxRecDepth 100000 in
theorem fhgt_17_28 : fhgtB28 17 28 = true := by decide +kernel
set_option maxRecDepth 100000 in
theorem fhgt_18_28 : fhgtB28 18 28 = true := by decide +kernel
set_option maxRecDepth 100000 in
theorem fhgt_19_28 : fhgtB28 19 28 = true := by decide +kernel
set_option maxRecDepth 100000 in
theorem fhgt_20_28 : fhgtB28 20 28 = true := by decide +kernel
set_option maxRecDepth 100000 in
theorem fhgt_21_28 : fhgtB28 21 28 = true := by decide +kernel
set_option maxRecDepth 100000 in
theorem fhgt_22_28 : fhgtB28 22 28 = true := by decide +kernel
set_option maxRecDepth 100000 in
theorem fhgt_23_28 : fhgtB28 23 28 = true := by decide +kernel
set_option maxRecDepth 100000 in
theorem fhgt_24_28 : fhgtB28 24 28 = true := by decide +kernel
set_option maxRecDepth 100000 in
theorem fhgt_25_28 : fhgtB28 25 28 = true := by decide +kernel
set_option maxRecDepth 100000 in
theorem fhgt_26_28 : fhgtB28 26 28 = true := by decide +kernel
set_option maxRecDepth 100000 in
theorem fhgt_27_28 : fhgtB28 27 28 = true := by decide +kernel
set_option maxRecDepth 100000 in
theorem fhgt_28_28 : fhgtB28 28 28 = true := by decide +kernel
set_option maxRecDepth 100000 in
theorem fhgt_29_28 : fhgtB28 29 28 = true := by decide +kernel
set_option maxRecDepth 100000 in
theorem fhgt_30_28 : fhgtB28 30 28 = true := by decide +kernel
set_option maxRecDepth 100000 in
theorem fhgt_31_28 : fhgtB28 31 28 = true := by decide +kernel
end Go.Proofs.Ytmloopjfjnjgiaa
