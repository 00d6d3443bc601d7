/-
  FlowHeights: cases, run (23).
-/
import Derived.Test.YtmloopjfjnjgiaaFlowRun
namespace Go.Proofs.Ytmloopjfjnjgiaa
open Go Vx

noncomputable def fhgtB23 (p : Nat) (q : Nat) : Bool := runM 4 [] [.and 0 31 p, .and 1 31 q] 3 [.int .i64 (.var 0), .int .i64 (.var 1)]
set_option maxRecDepth 100000 in
theorem fhgt_0_23 : fhgtB23 0 23 = true := by decide +kernel
set_option maxRecDepth 100000 in
theorem fhgt_1_23 : fhgtB23 1 23 = true := by decide +kernel
set_option maxRecDepth 100000 in
theorem fhgt_2_23 : fhgtB23 2 23 = true := by decide +kernel
set_option maxRecDepth 100000 in
theorem fhgt_3_23 : fhgtB23 3 23 = true := by decide +kernel
set_option maxRecDepth 100000 in
theorem fhgt_4_23 : fhgtB23 4 23 = true := by decide +kernel
set_option maxRecDepth 100000 in
theorem fhgt_5_23 : fhgtB23 5 23 = true := by decide +kernel
set_option maxRecDepth 100000 in
theorem fhgt_6_23 : fhgtB23 6 23 = true := by decide +kernel
set_option maxRecDepth 100000 in
theorem fhgt_7_23 : fhgtB23 7 23 = true := by decide +kernel
set_option maxRecDepth 100000 in
theorem fhgt_8_23 : fhgtB23 8 23 = true := by decide +kernel
set_option maxRecDepth 100000 in
theorem fhgt_9_23 : fhgtB23 9 23 = true := by decide +kernel
set_option maxRecDepth 100000 in
theorem fhgt_10_23 : fhgtB23 10 23 = true := by decide +kernel
set_option maxRecDepth 100000 in
theorem fhgt_11_23 : fhgtB23 11 23 = true := by decide +kernel
set_option maxRecDepth 100000 in
theorem fhgt_12_23 : fhgtB23 12 23 = true := by decide +kernel
set_option maxRecDepth 100000 in
theorem fhgt_13_23 : fhgtB23 13 23 = true := by decide +kernel
set_option maxRecDepth 100000 in
theorem fhgt_14_23 : fhgtB23 14 23 = true := by decide +kernel
set_option maxRecDepth 100000 in
theorem fhgt_15_23 : fhgtB23 15 23 = true := by decide +kernel
set_option maxRecDepth 100000 in
theorem fhgt_16_23 : fhgtB23 16 23 = true := by decide +kernel
set_option maxRecDepth 100000 in
theorem fhgt_17_23 : fhgtB23 17 23 = true := by decide +kernel
set_option maxRecDepth 100000 in
theorem fhgt_18_23 : fhgtB23 18 23 = true := by decide +kernel
set_option maxRecDepth 100000 in
theorem fhgt_19_23 : fhgtB23 19 23 = true := by decide +kernel
set_option maxRecDepth 100000 in
theorem fhgt_20_23 : fhgtB23 20 23 = true := by decide +kernel
set_option maxRecDepth 100000 in
theorem fhgt_21_23 : fhgtB23 21 23 = true := by decide +kernel
set_option maxRecDepth 100000 in
theorem fhgt_22_23 : fhgtB23 22 23 = true := by decide +kernel
set_option maxRecDepth 100000 in
theorem fhgt_23_23 : fhgtB23 23 23 = true := by decide +kernel
set_option maxRecDepth 100000 in
theorem fhgt_24_23 : fhgtB23 24 23 = true := by decide +kernel
set_option maxRecDepth 100000 in
theorem fhgt_25_23 : fhgtB23 25 23 = true := by decide +kernel
set_option maxRecDepth 100000 in
theorem fhgt_26_23 : fhgtB23 26 23 = true := by decide +kernel
set_option maxRecDepth 100000 in
theorem fhgt_27_23 : fhgtB23 27 23 = true := by decide +kernel
set_option maxRecDepth 100000 in
theorem fhgt_28_23 : fhgtB23 28 23 = true := by decide +kernel
set_option maxRecDepth 100000 in
theorem fhgt_29_23 : fhgtB23 29 23 = true := by decide +kernel
set_option maxRecDepth 100000 in
theorem fhgt_30_23 : fhgtB23 30 23 = true := by decide +kernel
set_option maxRecDepth 100000 in
theorem fhgt_31_23 : fhgtB23 31 23 = true := by decide +kernel
end Go.Proofs.Ytmloopjfjnjgiaa
