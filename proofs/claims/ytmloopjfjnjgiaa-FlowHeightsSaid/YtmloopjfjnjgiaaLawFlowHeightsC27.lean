/-
  FlowHeights: cases, run (27).
-/
import Derived.Test.YtmloopjfjnjgiaaFlowRun
namespace Go.Proofs.Ytmloopjfjnjgiaa
open Go Vx

noncomputable def fhgtB27 (p : Nat) (q : Nat) : Bool := runM 4 [] [.and 0 31 p, .and 1 31 q] 3 [.int .i64 (.var 0), .int .i64 (.var 1)]
set_option maxRecDepth 100000 in
theorem fhgt_0_27 : fhgtB27 0 27 = true := by decide +kernel
set_option maxRecDepth 100000 in
theorem fhgt_1_27 : fhgtB27 1 27 = true := by decide +kernel
set_option maxRecDepth 100000 in
theorem fhgt_2_27 : fhgtB27 2 27 = true := by decide +kernel
set_option maxRecDepth 100000 in
theorem fhgt_3_27 : fhgtB27 3 27 = true := by decide +kernel
set_option maxRecDepth 100000 in
theorem fhgt_4_27 : fhgtB27 4 27 = true := by decide +kernel
set_option maxRecDepth 100000 in
theorem fhgt_5_27 : fhgtB27 5 27 = true := by decide +kernel
set_option maxRecDepth 100000 in
theorem fhgt_6_27 : fhgtB27 6 27 = true := by decide +kernel
set_option maxRecDepth 100000 in
theorem fhgt_7_27 : fhgtB27 7 27 = true := by decide +kernel
set_option maxRecDepth 100000 in
theorem fhgt_8_27 : fhgtB27 8 27 = true := by decide +kernel
set_option maxRecDepth 100000 in
theorem fhgt_9_27 : fhgtB27 9 27 = true := by decide +kernel
set_option maxRecDepth 100000 in
theorem fhgt_10_27 : fhgtB27 10 27 = true := by decide +kernel
set_option maxRecDepth 100000 in
theorem fhgt_11_27 : fhgtB27 11 27 = true := by decide +kernel
set_option maxRecDepth 100000 in
theorem fhgt_12_27 : fhgtB27 12 27 = true := by decide +kernel
set_option maxRecDepth 100000 in
theorem fhgt_13_27 : fhgtB27 13 27 = true := by decide +kernel
set_option maxRecDepth 100000 in
theorem fhgt_14_27 : fhgtB27 14 27 = true := by decide +kernel
set_option maxRecDepth 100000 in
theorem fhgt_15_27 : fhgtB27 15 27 = true := by decide +kernel
set_option maxRecDepth 100000 in
theorem fhgt_16_27 : fhgtB27 16 27 = true := by decide +kernel
set_option maxRecDepth 100000 in
theorem fhgt_17_27 : fhgtB27 17 27 = true := by decide +kernel
set_option maxRecDepth 100000 in
theorem fhgt_18_27 : fhgtB27 18 27 = true := by decide +kernel
set_option maxRecDepth 100000 in
theorem fhgt_19_27 : fhgtB27 19 27 = true := by decide +kernel
set_option maxRecDepth 100000 in
theorem fhgt_20_27 : fhgtB27 20 27 = true := by decide +kernel
set_option maxRecDepth 100000 in
theorem fhgt_21_27 : fhgtB27 21 27 = true := by decide +kernel
set_option maxRecDepth 100000 in
theorem fhgt_22_27 : fhgtB27 22 27 = true := by decide +kernel
set_option maxRecDepth 100000 in
theorem fhgt_23_27 : fhgtB27 23 27 = true := by decide +kernel
set_option maxRecDepth 100000 in
theorem fhgt_24_27 : fhgtB27 24 27 = true := by decide +kernel
set_option maxRecDepth 100000 in
theorem fhgt_25_27 : fhgtB27 25 27 = true := by decide +kernel
set_option maxRecDepth 100000 in
theorem fhgt_26_27 : fhgtB27 26 27 = true := by decide +kernel
set_option maxRecDepth 100000 in
theorem fhgt_27_27 : fhgtB27 27 27 = true := by decide +kernel
set_option maxRecDepth 100000 in
theorem fhgt_28_27 : fhgtB27 28 27 = true := by decide +kernel
set_option maxRecDepth 100000 in
theorem fhgt_29_27 : fhgtB27 29 27 = true := by decide +kernel
set_option maxRecDepth 100000 in
theorem fhgt_30_27 : fhgtB27 30 27 = true := by decide +kernel
set_option maxRecDepth 100000 in
theorem fhgt_31_27 : fhgtB27 31 27 = true := by decide +kernel
end Go.Proofs.Ytmloopjfjnjgiaa
