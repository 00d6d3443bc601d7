/-
  FlowHeights: cases, run (7).
-/
import Derived.Test.YtmloopjfjnjgiaaFlowRun
namespace Go.Proofs.Ytmloopjfjnjgiaa
open Go Vx

noncomputable def fhgtB7 (p : Nat) (q : Nat) : Bool := runM 4 [] [.and 0 31 p, .and 1 31 q] 3 [.int .i64 (.var 0), .int .i64 (.var 1)]
set_option maxRecDepth 100000 in
theorem fhgt_0_7 : fhgtB7 0 7 = true := by decide +kernel
set_option maxRecDepth 100000 in
theorem fhgt_1_7 : fhgtB7 1 7 = true := by decide +kernel
set_option maxRecDepth 100000 in
theorem fhgt_2_7 : fhgtB7 2 7 = true := by decide +kernel
set_option maxRecDepth 100000 in
theorem fhgt_3_7 : fhgtB7 3 7 = true := by decide +kernel
set_option maxRecDepth 100000 in
theorem fhgt_4_7 : fhgtB7 4 7 = true := by decide +kernel
set_option maxRecDepth 100000 in
theorem fhgt_5_7 : fhgtB7 5 7 = true := by decide +kernel
set_option maxRecDepth 100000 in
theorem fhgt_6_7 : fhgtB7 6 7 = true := by decide +kernel
set_option maxRecDepth 100000 in
theorem fhgt_7_7 : fhgtB7 7 7 = true := by decide +kernel
set_option maxRecDepth 100000 in
theorem fhgt_8_7 : fhgtB7 8 7 = true := by decide +kernel
set_option maxRecDepth 100000 in
theorem fhgt_9_7 : fhgtB7 9 7 = true := by decide +kernel
set_option maxRecDepth 100000 in
theorem fhgt_10_7 : fhgtB7 10 7 = true := by decide +kernel
set_option maxRecDepth 100000 in
theorem fhgt_11_7 : fhgtB7 11 7 = true := by decide +kernel
set_option maxRecDepth 100000 in
theorem fhgt_12_7 : fhgtB7 12 7 = true := by decide +kernel
set_option maxRecDepth 100000 in
theorem fhgt_13_7 : fhgtB7 13 7 = true := by decide +kernel
set_option maxRecDepth 100000 in
theorem fhgt_14_7 : fhgtB7 14 7 = true := by decide +kernel
set_option maxRecDepth 100000 in
theorem fhgt_15_7 : fhgtB7 15 7 = true := by decide +kernel
set_option maxRecDepth 100000 in
theorem fhgt_16_7 : fhgtB7 16 7 = true := by decide +kernel
set_option maxRecDepth 100000 in
theorem fhgt_17_7 : fhgtB7 17 7 = true := by decide +kernel
set_option maxRecDepth 100000 in
theorem fhgt_18_7 : fhgtB7 18 7 = true := by decide +kernel
set_option maxRecDepth 100000 in
theorem fhgt_19_7 : fhgtB7 19 7 = true := by decide +kernel
set_option maxRecDepth 100000 in
theorem fhgt_20_7 : fhgtB7 20 7 = true := by decide +kernel
set_option maxRecDepth 100000 in
theorem fhgt_21_7 : fhgtB7 21 7 = true := by decide +kernel
set_option maxRecDepth 100000 in
theorem fhgt_22_7 : fhgtB7 22 7 = true := by decide +kernel
set_option maxRecDepth 100000 in
theorem fhgt_23_7 : fhgtB7 23 7 = true := by decide +kernel
set_option maxRecDepth 100000 in
theorem fhgt_24_7 : fhgtB7 24 7 = true := by decide +kernel
set_option maxRecDepth 100000 in
theorem fhgt_25_7 : fhgtB7 25 7 = true := by decide +kernel
set_option maxRecDepth 100000 in
theorem fhgt_26_7 : fhgtB7 26 7 = true := by decide +kernel
set_option maxRecDepth 100000 in
theorem fhgt_27_7 : fhgtB7 27 7 = true := by decide +kernel
set_option maxRecDepth 100000 in
theorem fhgt_28_7 : fhgtB7 28 7 = true := by decide +kernel
set_option maxRecDepth 100000 in
theorem fhgt_29_7 : fhgtB7 29 7 = true := by decide +kernel
set_option maxRecDepth 100000 in
theorem fhgt_30_7 : fhgtB7 30 7 = true := by decide +kernel
set_option maxRecDepth 100000 in
theorem fhgt_31_7 : fhgtB7 31 7 = true := by decide +kernel
end Go.Proofs.Ytmloopjfjnjgiaa
