/-
  FlowHeights: cases, run (12).
-/
import Derived.Test.YtmloopjfjnjgiaaFlowRun
namespace Go.Proofs.Ytmloopjfjnjgiaa
open Go Vx

noncomputable def fhgtB12 (p : Nat) (q : Nat) : Bool := runM 4 [] [.and 0 31 p, .and 1 31 q] 3 [.int .i64 (.var 0), .int .i64 (.var 1)]
set_option maxRecDepth 100000 in
theorem fhgt_0_12 : fhgtB12 0 12 = true := by decide +kernel
set_option maxRecDepth 100000 in
theorem fhgt_1_12 : fhgtB12 1 12 = true := by decide +kernel
set_option maxRecDepth 100000 in
theorem fhgt_2_12 : fhgtB12 2 12 = true := by decide +kernel
set_option maxRecDepth 100000 in
theorem fhgt_3_12 : fhgtB12 3 12 = true := by decide +kernel
set_option maxRecDepth 100000 in
theorem fhgt_4_12 : fhgtB12 4 12 = true := by decide +kernel
set_option maxRecDepth 100000 in
theorem fhgt_5_12 : fhgtB12 5 12 = true := by decide +kernel
set_option maxRecDepth 100000 in
theorem fhgt_6_12 : fhgtB12 6 12 = true := by decide +kernel
set_option maxRecDepth 100000 in
theorem fhgt_7_12 : fhgtB12 7 12 = true := by decide +kernel
set_option maxRecDepth 100000 in
theorem fhgt_8_12 : fhgtB12 8 12 = true := by decide +kernel
set_option maxRecDepth 100000 in
theorem fhgt_9_12 : fhgtB12 9 12 = true := by decide +kernel
set_option maxRecDepth 100000 in
theorem fhgt_10_12 : fhgtB12 10 12 = true := by decide +kernel
set_option maxRecDepth 100000 in
theorem fhgt_11_12 : fhgtB12 11 12 = true := by decide +kernel
set_option maxRecDepth 100000 in
theorem fhgt_12_12 : fhgtB12 12 12 = true := by decide +kernel
set_option maxRecDepth 100000 in
theorem fhgt_13_12 : fhgtB12 13 12 = true := by decide +kernel
set_option maxRecDepth 100000 in
theorem fhgt_14_12 : fhgtB12 14 12 = true := by decide +kernel
set_option maxRecDepth 100000 in
theorem fhgt_15_12 : fhgtB12 15 12 = true := by decide +kernel
set_option maxRecDepth 100000 in
theorem fhgt_16_12 : fhgtB12 16 12 = true := by decide +kernel
set_option maxRecDepth 100000 in
theorem fhgt_17_12 : fhgtB12 17 12 = true := by decide +kernel
set_option maxRecDepth 100000 in
theorem fhgt_18_12 : fhgtB12 18 12 = true := by decide +kernel
set_option maxRecDepth 100000 in
theorem fhgt_19_12 : fhgtB12 19 12 = true := by decide +kernel
set_option maxRecDepth 100000 in
theorem fhgt_20_12 : fhgtB12 20 12 = true := by decide +kernel
set_option maxRecDepth 100000 in
theorem fhgt_21_12 : fhgtB12 21 12 = true := by decide +kernel
set_option maxRecDepth 100000 in
theorem fhgt_22_12 : fhgtB12 22 12 = true := by decide +kernel
set_option maxRecDepth 100000 in
theorem fhgt_23_12 : fhgtB12 23 12 = true := by decide +kernel
set_option maxRecDepth 100000 in
theorem fhgt_24_12 : fhgtB12 24 12 = true := by decide +kernel
set_option maxRecDepth 100000 in
theorem fhgt_25_12 : fhgtB12 25 12 = true := by decide +kernel
set_option maxRecDepth 100000 in
theorem fhgt_26_12 : fhgtB12 26 12 = true := by decide +kernel
set_option maxRecDepth 100000 in
theorem fhgt_27_12 : fhgtB12 27 12 = true := by decide +kernel
set_option maxRecDepth 100000 in
theorem fhgt_28_12 : fhgtB12 28 12 = true := by decide +kernel
set_option maxRecDepth 100000 in
theorem fhgt_29_12 : fhgtB12 29 12 = true := by decide +kernel
set_option maxRecDepth 100000 in
theorem fhgt_30_12 : fhgtB12 30 12 = true := by decide +kernel
set_option maxRecDepth 100000 in
theorem fhgt_31_12 : fhgtB12 31 12 = true := by decide +kernel
end Go.Proofs.Ytmloopjfjnjgiaa
