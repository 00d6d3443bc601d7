/-
  FlowHeights: cases, run (2).
-/
import Derived.Test.YtmloopjfjnjgiaaFlowRun
namespace Go.Proofs.Ytmloopjfjnjgiaa
open Go Vx

noncomputable def fhgtB2 (p : Nat) (q : Nat) : Bool := runM 4 [] [.and 0 31 p, .and 1 31 q] 3 [.int .i64 (.var 0), .int .i64 (.var 1)]
set_option maxRecDepth 100000 in
theorem fhgt_0_2 : fhgtB2 0 2 = true := by decide +kernel
set_option maxRecDepth 100000 in
theorem fhgt_1_2 : fhgtB2 1 2 = true := by decide +kernel
set_option maxRecDepth 100000 in
theorem fhgt_2_2 : fhgtB2 2 2 = true := by decide +kernel
set_option maxRecDepth 100000 in
theorem fhgt_3_2 : fhgtB2 3 2 = true := by decide +kernel
set_option maxRecDepth 100000 in
theorem fhgt_4_2 : fhgtB2 4 2 = true := by decide +kernel
set_option maxRecDepth 100000 in
theorem fhgt_5_2 : fhgtB2 5 2 = true := by decide +kernel
set_option maxRecDepth 100000 in
theorem fhgt_6_2 : fhgtB2 6 2 = true := by decide +kernel
set_option maxRecDepth 100000 in
theorem fhgt_7_2 : fhgtB2 7 2 = true := by decide +kernel
set_option maxRecDepth 100000 in
theorem fhgt_8_2 : fhgtB2 8 2 = true := by decide +kernel
set_option maxRecDepth 100000 in
theorem fhgt_9_2 : fhgtB2 9 2 = true := by decide +kernel
set_option maxRecDepth 100000 in
theorem fhgt_10_2 : fhgtB2 10 2 = true := by decide +kernel
set_option maxRecDepth 100000 in
theorem fhgt_11_2 : fhgtB2 11 2 = true := by decide +kernel
set_option maxRecDepth 100000 in
theorem fhgt_12_2 : fhgtB2 12 2 = true := by decide +kernel
set_option maxRecDepth 100000 in
theorem fhgt_13_2 : fhgtB2 13 2 = true := by decide +kernel
set_option maxRecDepth 100000 in
theorem fhgt_14_2 : fhgtB2 14 2 = true := by decide +kernel
set_option maxRecDepth 100000 in
theorem fhgt_15_2 : fhgtB2 15 2 = true := by decide +kernel
set_option maxRecDepth 100000 in
theorem fhgt_16_2 : fhgtB2 16 2 = true := by decide +kernel
set_option maxRecDepth 100000 in
theorem fhgt_17_2 : fhgtB2 17 2 = true := by decide +kernel
set_option maxRecDepth 100000 in
theorem fhgt_18_2 : fhgtB2 18 2 = true := by decide +kernel
set_option maxRecDepth 100000 in
theorem fhgt_19_2 : fhgtB2 19 2 = true := by decide +kernel
set_option maxRecDepth 100000 in
theorem fhgt_20_2 : fhgtB2 20 2 = true := by decide +kernel
set_option maxRecDepth 100000 in
theorem fhgt_21_2 : fhgtB2 21 2 = true := by decide +kernel
set_option maxRecDepth 100000 in
theorem fhgt_22_2 : fhgtB2 22 2 = true := by decide +kernel
set_option maxRecDepth 100000 in
theorem fhgt_23_2 : fhgtB2 23 2 = true := by decide +kernel
set_option maxRecDepth 100000 in
theorem fhgt_24_2 : fhgtB2 24 2 = true := by decide +kernel
set_option maxRecDepth 100000 in
theorem fhgt_25_2 : fhgtB2 25 2 = true := by decide +kernel
set_option maxRecDepth 100000 in
theorem fhgt_26_2 : fhgtB2 26 2 = true := by decide +kernel
set_option maxRecDepth 100000 in
theorem fhgt_27_2 : fhgtB2 27 2 = true := by decide +kernel
set_option maxRecDepth 100000 in
theorem fhgt_28_2 : fhgtB2 28 2 = true := by decide +kernel
set_option maxRecDepth 100000 in
theorem fhgt_29_2 : fhgtB2 29 2 = true := by decide +kernel
set_option maxRecDepth 100000 in
theorem fhgt_30_2 : fhgtB2 30 2 = true := by decide +kernel
set_option maxRecDepth 100000 in
theorem fhgt_31_2 : fhgtB2 31 2 = true := by decide +kernel
end Go.Proofs.Ytmloopjfjnjgiaa
