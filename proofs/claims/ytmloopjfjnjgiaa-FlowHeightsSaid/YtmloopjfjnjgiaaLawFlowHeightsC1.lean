/-
  FlowHeights: cases, run (1).
-/
import Derived.Test.YtmloopjfjnjgiaaFlowRun
namespace Go.Proofs.Ytmloopjfjnjgiaa
open Go Vx

noncomputable def fhgtB1 (p : Nat) (q : Nat) : Bool := runM 4 [] [.and 0 31 p, .and 1 31 q] 3 [.int .i64 (.var 0), .int .i64 (.var 1)]
set_option maxRecDepth 100000 in
theorem fhgt_0_1 : fhgtB1 0 1 = true := by decide +kernel
set_option maxRecDepth 100000 in
theorem fhgt_1_1 : fhgtB1 1 1 = true := by decide +kernel
set_option maxRecDepth 100000 in
theorem fhgt_2_1 : fhgtB1 2 1 = true := by decide +kernel
set_option maxRecDepth 100000 in
theorem fhgt_3_1 : fhgtB1 3 1 = true := by decide +kernel
set_option maxRecDepth 100000 in
theorem fhgt_4_1 : fhgtB1 4 1 = true := by decide +kernel
set_option maxRecDepth 100000 in
theorem fhgt_5_1 : fhgtB1 5 1 = true := by decide +kernel
set_option maxRecDepth 100000 in
theorem fhgt_6_1 : fhgtB1 6 1 = true := by decide +kernel
set_option maxRecDepth 100000 in
theorem fhgt_7_1 : fhgtB1 7 1 = true := by decide +kernel
set_option maxRecDepth 100000 in
theorem fhgt_8_1 : fhgtB1 8 1 = true := by decide +kernel
set_option maxRecDepth 100000 in
theorem fhgt_9_1 : fhgtB1 9 1 = true := by decide +kernel
set_option maxRecDepth 100000 in
theorem fhgt_10_1 : fhgtB1 10 1 = true := by decide +kernel
set_option maxRecDepth 100000 in
theorem fhgt_11_1 : fhgtB1 11 1 = true := by decide +kernel
set_option maxRecDepth 100000 in
theorem fhgt_12_1 : fhgtB1 12 1 = true := by decide +kernel
set_option maxRecDepth 100000 in
theorem fhgt_13_1 : fhgtB1 13 1 = true := by decide +kernel
set_option maxRecDepth 100000 in
theorem fhgt_14_1 : fhgtB1 14 1 = true := by decide +kernel
set_option maxRecDepth 100000 in
theorem fhgt_15_1 : fhgtB1 15 1 = true := by decide +kernel
set_option maxRecDepth 100000 in
theorem fhgt_16_1 : fhgtB1 16 1 = true := by decide +kernel
set_option maxRecDepth 100000 in
theorem fhgt_17_1 : fhgtB1 17 1 = true := by decide +kernel
set_option maxRecDepth 100000 in
theorem fhgt_18_1 : fhgtB1 18 1 = true := by decide +kernel
set_option maxRecDepth 100000 in
theorem fhgt_19_1 : fhgtB1 19 1 = true := by decide +kernel
set_option maxRecDepth 100000 in
theorem fhgt_20_1 : fhgtB1 20 1 = true := by decide +kernel
set_option maxRecDepth 100000 in
theorem fhgt_21_1 : fhgtB1 21 1 = true := by decide +kernel
set_option maxRecDepth 100000 in
theorem fhgt_22_1 : fhgtB1 22 1 = true := by decide +kernel
set_option maxRecDepth 100000 in
theorem fhgt_23_1 : fhgtB1 23 1 = true := by decide +kernel
set_option maxRecDepth 100000 in
theorem fhgt_24_1 : fhgtB1 24 1 = true := by decide +kernel
set_option maxRecDepth 100000 in
theorem fhgt_25_1 : fhgtB1 25 1 = true := by decide +kernel
set_option maxRecDepth 100000 in
theorem fhgt_26_1 : fhgtB1 26 1 = true := by decide +kernel
set_option maxRecDepth 100000 in
theorem fhgt_27_1 : fhgtB1 27 1 = true := by decide +kernel
set_option maxRecDepth 100000 in
theorem fhgt_28_1 : fhgtB1 28 1 = true := by decide +kernel
set_option maxRecDepth 100000 in
theorem fhgt_29_1 : fhgtB1 29 1 = true := by decide +kernel
set_option maxRecDepth 100000 in
theorem fhgt_30_1 : fhgtB1 30 1 = true := by decide +kernel
set_option maxRecDepth 100000 in
theorem fhgt_31_1 : fhgtB1 31 1 = true := by decide +kernel
end Go.Proofs.Ytmloopjfjnjgiaa
