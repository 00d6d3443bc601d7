/-
  FlowHeights: cases, run (9).
-/
import Derived.Test.YtmloopjfjnjgiaaFlowRun
namespace Go.Proofs.Ytmloopjfjnjgiaa
open Go Vx

noncomputable def fhgtB9 (p : Nat) (q : Nat) : Bool := runM 4 [] [.and 0 31 p, .and 1 31 q] 3 [.int .i64 (.var 0), .int .i64 (.var 1)]
set_option maxRecDepth 100000 in
theorem fhgt_0_9 : fhgtB9 0 9 = true := by decide +kernel
set_option maxRecDepth 100000 in
theorem fhgt_1_9 : fhgtB9 1 9 = true := by decide +kernel
set_option maxRecDepth 100000 in
theorem fhgt_2_9 : fhgtB9 2 9 = true := by decide +kernel
set_option maxRecDepth 100000 in
theorem fhgt_3_9 : fhgtB9 3 9 = true := by decide +kernel
set_option maxRecDepth 100000 in
theorem fhgt_4_9 : fhgtB9 4 9 = true := by decide +kernel
set_option maxRecDepth 100000 in
theorem fhgt_5_9 : fhgtB9 5 9 = true := by decide +kernel
set_option maxRecDepth 100000 in
theorem fhgt_6_9 : fhgtB9 6 9 = true := by decide +kernel
set_option maxRecDepth 100000 in
theorem fhgt_7_9 : fhgtB9 7 9 = true := by decide +kernel
set_option maxRecDepth 100000 in
theorem fhgt_8_9 : fhgtB9 8 9 = true := by decide +kernel
set_option maxRecDepth 100000 in
theorem fhgt_9_9 : fhgtB9 9 9 = true := by decide +kernel
set_option maxRecDepth 100000 in
theorem fhgt_10_9 : fhgtB9 10 9 = true := by decide +kernel
set_option maxRecDepth 100000 in
theorem fhgt_11_9 : fhgtB9 11 9 = true := by decide +kernel
set_option maxRecDepth 100000 in
theorem fhgt_12_9 : fhgtB9 12 9 = true := by decide +kernel
set_option maxRecDepth 100000 in
theorem fhgt_13_9 : fhgtB9 13 9 = true := by decide +kernel
set_option maxRecDepth 100000 in
theorem fhgt_14_9 : fhgtB9 14 9 = true := by decide +kernel
set_option maxRecDepth 100000 in
theorem fhgt_15_9 : fhgtB9 15 9 = true := by decide +kernel
set_option maxRecDepth 100000 in
theorem fhgt_16_9 : fhgtB9 16 9 = true := by decide +kernel
set_option maxRecDepth 100000 in
theorem fhgt_17_9 : fhgtB9 17 9 = true := by decide +kernel
set_option maxRecDepth 100000 in
theorem fhgt_18_9 : fhgtB9 18 9 = true := by decide +kernel
set_option maxRecDepth 100000 in
theorem fhgt_19_9 : fhgtB9 19 9 = true := by decide +kernel
set_option maxRecDepth 100000 in
theorem fhgt_20_9 : fhgtB9 20 9 = true := by decide +kernel
set_option maxRecDepth 100000 in
theorem fhgt_21_9 : fhgtB9 21 9 = true := by decide +kernel
set_option maxRecDepth 100000 in
theorem fhgt_22_9 : fhgtB9 22 9 = true := by decide +kernel
set_option maxRecDepth 100000 in
theorem fhgt_23_9 : fhgtB9 23 9 = true := by decide +kernel
set_option maxRecDepth 100000 in
theorem fhgt_24_9 : fhgtB9 24 9 = true := by decide +kernel
set_option maxRecDepth 100000 in
theorem fhgt_25_9 : fhgtB9 25 9 = true := by decide +kernel
set_option maxRecDepth 100000 in
theorem fhgt_26_9 : fhgtB9 26 9 = true := by decide +kernel
set_option maxRecDepth 100000 in
theorem fhgt_27_9 : fhgtB9 27 9 = true := by decide +kernel
set_option maxRecDepth 100000 in
theorem fhgt_28_9 : fhgtB9 28 9 = true := by decide +kernel
set_option maxRecDepth 100000 in
theorem fhgt_29_9 : fhgtB9 29 9 = true := by decide +kernel
set_option maxRecDepth 100000 in
theorem fhgt_30_9 : fhgtB9 30 9 = true := by decide +kernel
set_option maxRecDepth 100000 in
theorem fhgt_31_9 : fhgtB9 31 9 = true := by decide +kernel
end Go.Proofs.Ytmloopjfjnjgiaa
