/-
  FlowHeights: cases, run (15).
-/
import Derived.Test.YtmloopjfjnjgiaaFlowRun
namespace Go.Proofs.Ytmloopjfjnjgiaa
open Go Vx

noncomputable def fhgtB15 (p : Nat) (q : Nat) : Bool := runM 4 [] [.and 0 31 p, .and 1 31 q] 3 [.int .i64 (.var 0), .int .i64 (.var 1)]
set_option maxRecDepth 100000 in
theorem fhgt_0_15 : fhgtB15 0 15 = true := by decide +kernel
set_option maxRecDepth 100000 in
theorem fhgt_1_15 : fhgtB15 1 15 = true := by decide +kernel
set_option maxRecDepth 100000 in
theorem fhgt_2_15 : fhgtB15 2 15 = true := by decide +kernel
set_option maxRecDepth 100000 in
theorem fhgt_3_15 : fhgtB15 3 15 = true := by decide +kernel
set_option maxRecDepth 100000 in
theorem fhgt_4_15 : fhgtB15 4 15 = true := by decide +kernel
set_option maxRecDepth 100000 in
theorem fhgt_5_15 : fhgtB15 5 15 = true := by decide +kernel
set_option maxRecDepth 100000 in
theorem fhgt_6_15 : fhgtB15 6 15 = true := by decide +kernel
set_option maxRecDepth 100000 in
theorem fhgt_7_15 : fhgtB15 7 15 = true := by decide +kernel
set_option maxRecDepth 100000 in
theorem fhgt_8_15 : fhgtB15 8 15 = true := by decide +kernel
set_option maxRecDepth 100000 in
theorem fhgt_9_15 : fhgtB15 9 15 = true := by decide +kernel
set_option maxRecDepth 100000 in
theorem fhgt_10_15 : fhgtB15 10 15 = true := by decide +kernel
set_option maxRecDepth 100000 in
theorem fhgt_11_15 : fhgtB15 11 15 = true := by decide +kernel
set_option maxRecDepth 100000 in
theorem fhgt_12_15 : fhgtB15 12 15 = true := by decide +kernel
set_option maxRecDepth 100000 in
theorem fhgt_13_15 : fhgtB15 13 15 = true := by decide +kernel
set_option maxRecDepth 100000 in
theorem fhgt_14_15 : fhgtB15 14 15 = true := by decide +kernel
set_option maxRecDepth 100000 in
theorem fhgt_15_15 : fhgtB15 15 15 = true := by decide +kernel
set_option maxRecDepth 100000 in
theorem fhgt_16_15 : fhgtB15 16 15 = true := by decide +kernel
set_option maxRecDepth 100000 in
theorem fhgt_17_15 : fhgtB15 17 15 = true := by decide +kernel
set_option maxRecDepth 100000 in
theorem fhgt_18_15 : fhgtB15 18 15 = true := by decide +kernel
set_option maxRecDepth 100000 in
theorem fhgt_19_15 : fhgtB15 19 15 = true := by decide +kernel
set_option maxRecDepth 100000 in
theorem fhgt_20_15 : fhgtB15 20 15 = true := by decide +kernel
set_option maxRecDepth 100000 in
theorem fhgt_21_15 : fhgtB15 21 15 = true := by decide +kernel
set_option maxRecDepth 100000 in
theorem fhgt_22_15 : fhgtB15 22 15 = true := by decide +kernel
set_option maxRecDepth 100000 in
theorem fhgt_23_15 : fhgtB15 23 15 = true := by decide +kernel
set_option maxRecDepth 100000 in
theorem fhgt_24_15 : fhgtB15 24 15 = true := by decide +kernel
set_option maxRecDepth 100000 in
theorem fhgt_25_15 : fhgtB15 25 15 = true := by decide +kernel
set_option maxRecDepth 100000 in
theorem fhgt_26_15 : fhgtB15 26 15 = true := by decide +kernel
set_option maxRecDepth 100000 in
theorem fhgt_27_15 : fhgtB15 27 15 = true := by decide +kernel
set_option maxRecDepth 100000 in
theorem fhgt_28_15 : fhgtB15 28 15 = true := by decide +kernel
set_option maxRecDepth 100000 in
theorem fhgt_29_15 : fhgtB15 29 15 = true := by decide +kernel
set_option maxRecDepth 100000 in
theorem fhgt_30_15 : fhgtB15 30 15 = true := by decide +kernel
set_option maxRecDepth 100000 in
theorem fhgt_31_15 : fhgtB15 31 15 = true := by decide +kernel
end Go.Proofs.Ytmloopjfjnjgiaa
