/-
  FlowHeights: cases, run (26).
-/
import Derived.Test.YtmloopjfjnjgiaaFlowRun
namespace Go.Proofs.Ytmloopjfjnjgiaa
open Go Vx

noncomputable def fhgtB26 (p : Nat) (q : Nat) : Bool := runM 4 [] [.and 0 31 p, .and 1 31 q] 3 [.int .i64 (.var 0), .int .i64 (.var 1)]
set_option maxRecDepth 100000 in
theorem fhgt_0_26 : fhgtB26 0 26 = true := by decide +kernel
set_option maxRecDepth 100000 in
theorem fhgt_1_26 : fhgtB26 1 26 = true := by decide +kernel
set_option maxRecDepth 100000 in
theorem fhgt_2_26 : fhgtB26 2 26 = true := by decide +kernel
set_option maxRecDepth 100000 in
theorem fhgt_3_26 : fhgtB26 3 26 = true := by decide +kernel
set_option maxRecDepth 100000 in
theorem fhgt_4_26 : fhgtB26 4 26 = true := by decide +kernel
set_option maxRecDepth 100000 in
theorem fhgt_5_26 : fhgtB26 5 26 = true := by decide +kernel
set_option maxRecDepth 100000 in
theorem fhgt_6_26 : fhgtB26 6 26 = true := by decide +kernel
set_option maxRecDepth 100000 in
theorem fhgt_7_26 : fhgtB26 7 26 = true := by decide +kernel
set_option maxRecDepth 100000 in
theorem fhgt_8_26 : fhgtB26 8 26 = true := by decide +kernel
set_option maxRecDepth 100000 in
theorem fhgt_9_26 : fhgtB26 9 26 = true := by decide +kernel
set_option maxRecDepth 100000 in
theorem fhgt_10_26 : fhgtB26 10 26 = true := by decide +kernel
set_option maxRecDepth 100000 in
theorem fhgt_11_26 : fhgtB26 11 26 = true := by decide +kernel
set_option maxRecDepth 100000 in
theorem fhgt_12_26 : fhgtB26 12 26 = true := by decide +kernel
set_option maxRecDepth 100000 in
theorem fhgt_13_26 : fhgtB26 13 26 = true := by decide +kernel
set_option maxRecDepth 100000 in
theorem fhgt_14_26 : fhgtB26 14 26 = true := by decide +kernel
set_option maxRecDepth 100000 in
theorem fhgt_15_26 : fhgtB26 15 26 = true := by decide +kernel
set_option maxRecDepth 100000 in
theorem fhgt_16_26 : fhgtB26 16 26 = true := by decide +kernel
set_option maxRecDepth 100000 in
theorem fhgt_17_26 : fhgtB26 17 26 = true := by decide +kernel
set_option maxRecDepth 100000 in
theorem fhgt_18_26 : fhgtB26 18 26 = true := by decide +kernel
set_option maxRecDepth 100000 in
theorem fhgt_19_26 : fhgtB26 19 26 = true := by decide +kernel
set_option maxRecDepth 100000 in
theorem fhgt_20_26 : fhgtB26 20 26 = true := by decide +kernel
set_option maxRecDepth 100000 in
theorem fhgt_21_26 : fhgtB26 21 26 = true := by decide +kernel
set_option maxRecDepth 100000 in
theorem fhgt_22_26 : fhgtB26 22 26 = true := by decide +kernel
set_option maxRecDepth 100000 in
theorem fhgt_23_26 : fhgtB26 23 26 = true := by decide +kernel
set_option maxRecDepth 100000 in
theorem fhgt_24_26 : fhgtB26 24 26 = true := by decide +kernel
set_option maxRecDepth 100000 in
theorem fhgt_25_26 : fhgtB26 25 26 = true := by decide +kernel
set_option maxRecDepth 100000 in
theorem fhgt_26_26 : fhgtB26 26 26 = true := by decide +kernel
set_option maxRecDepth 100000 in
theorem fhgt_27_26 : fhgtB26 27 26 = true := by decide +kernel
set_option maxRecDepth 100000 in
theorem fhgt_28_26 : fhgtB26 28 26 = true := by decide +kernel
set_option maxRecDepth 100000 in
theorem fhgt_29_26 : fhgtB26 29 26 = true := by decide +kernel
set_option maxRecDepth 100000 in
theorem fhgt_30_26 : fhgtB26 30 26 = true := by decide +kernel
set_option maxRecDepth 100000 in
theorem fhgt_31_26 : fhgtB26 31 26 = true := by decide +kernel
end Go.Proofs.Ytmloopjfjnjgiaa
