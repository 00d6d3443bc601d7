/-
  FlowHeights: cases, run (0).
-/
import Derived.Test.YtmloopjfjnjgiaaFlowRun
namespace Go.Proofs.Ytmloopjfjnjgiaa
open Go Vx

noncomputable def fhgtB0 (p : Nat) (q : Nat) : Bool := runM 4 [] [.and 0 31 p, .and 1 31 q] 3 [.int .i64 (.var 0), .int .i64 (.var 1)]
set_option maxRecDepth 100000 in
theorem fhgt_0_0 : fhgtB0 0 0 = true := by decide +kernel
set_option maxRecDepth 100000 in
theorem fhgt_1_0 : fhgtB0 1 0 = true := by decide +kernel
set_option maxRecDepth 100000 in
theorem fhgt_2_0 : fhgtB0 2 0 = true := by decide +kernel
set_option maxRecDepth 100000 in
theorem fhgt_3_0 : fhgtB0 3 0 = true := by decide +kernel
set_option maxRecDepth 100000 in
theorem fhgt_4_0 : fhgtB0 4 0 = true := by decide +kernel
set_option maxRecDepth 100000 in
theorem fhgt_5_0 : fhgtB0 5 0 = true := by decide +kernel
set_option maxRecDepth 100000 in
theorem fhgt_6_0 : fhgtB0 6 0 = true := by decide +kernel
set_option maxRecDepth 100000 in
theorem fhgt_7_0 : fhgtB0 7 0 = true := by decide +kernel
set_option maxRecDepth 100000 in
theorem fhgt_8_0 : fhgtB0 8 0 = true := by decide +kernel
set_option maxRecDepth 100000 in
theorem fhgt_9_0 : fhgtB0 9 0 = true := by decide +kernel
set_option maxRecDepth 100000 in
theorem fhgt_10_0 : fhgtB0 10 0 = true := by decide +kernel
set_option maxRecDepth 100000 in
theorem fhgt_11_0 : fhgtB0 11 0 = true := by decide +kernel
set_option maxRecDepth 100000 in
theorem fhgt_12_0 : fhgtB0 12 0 = true := by decide +kernel
set_option maxRecDepth 100000 in
theorem fhgt_13_0 : fhgtB0 13 0 = true := by decide +kernel
set_option maxRecDepth 100000 in
theorem fhgt_14_0 : fhgtB0 14 0 = true := by decide +kernel
set_option maxRecDepth 100000 in
theorem fhgt_15_0 : fhgtB0 15 0 = true := by decide +kernel
set_option maxRecDepth 100000 in
theorem fhgt_16_0 : fhgtB0 16 0 = true := by decide +kernel
set_option maxRecDepth 100000 in
theorem fhgt_17_0 : fhgtB0 17 0 = true := by decide +kernel
set_option maxRecDepth 100000 in
theorem fhgt_18_0 : fhgtB0 18 0 = true := by decide +kernel
set_option maxRecDepth 100000 in
theorem fhgt_19_0 : fhgtB0 19 0 = true := by decide +kernel
set_option maxRecDepth 100000 in
theorem fhgt_20_0 : fhgtB0 20 0 = true := by decide +kernel
set_option maxRecDepth 100000 in
theorem fhgt_21_0 : fhgtB0 21 0 = true := by decide +kernel
set_option maxRecDepth 100000 in
theorem fhgt_22_0 : fhgtB0 22 0 = true := by decide +kernel
set_option maxRecDepth 100000 in
theorem fhgt_23_0 : fhgtB0 23 0 = true := by decide +kernel
set_option maxRecDepth 100000 in
theorem fhgt_24_0 : fhgtB0 24 0 = true := by decide +kernel
set_option maxRecDepth 100000 in
theorem fhgt_25_0 : fhgtB0 25 0 = true := by decide +kernel
set_option maxRecDepth 100000 in
theorem fhgt_26_0 : fhgtB0 26 0 = true := by decide +kernel
set_option maxRecDepth 100000 in
theorem fhgt_27_0 : fhgtB0 27 0 = true := by decide +kernel
set_option maxRecDepth 100000 in
theorem fhgt_28_0 : fhgtB0 28 0 = true := by decide +kernel
set_option maxRecDepth 100000 in
theorem fhgt_29_0 : fhgtB0 29 0 = true := by decide +kernel
set_option maxRecDepth 100000 in
theorem fhgt_30_0 : fhgtB0 30 0 = true := by decide +kernel
set_option maxRecDepth 100000 in
theorem fhgt_31_0 : fhgtB0 31 0 = true := by decide +kernel
end Go.Proofs.Ytmloopjfjnjgiaa
