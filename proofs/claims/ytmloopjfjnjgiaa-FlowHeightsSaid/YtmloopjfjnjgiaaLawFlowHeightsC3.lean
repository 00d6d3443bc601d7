/-
  FlowHeights: cases, run (3).
-/
import Derived.Test.YtmloopjfjnjgiaaFlowRun
namespace Go.Proofs.Ytmloopjfjnjgiaa
open Go Vx

noncomputable def fhgtB3 (p : Nat) (q : Nat) : Bool := runM 4 [] [.and 0 31 p, .and 1 31 q] 3 [.int .i64 (.var 0), .int .i64 (.var 1)]
set_option maxRecDepth 100000 in
theorem fhgt_0_3 : fhgtB3 0 3 = true := by decide +kernel
set_option maxRecDepth 100000 in
theorem fhgt_1_3 : fhgtB3 1 3 = true := by decide +kernel
set_option maxRecDepth 100000 in
theorem fhgt_2_3 : fhgtB3 2 3 = true := by decide +kernel
set_option maxRecDepth 100000 in
theorem fhgt_3_3 : fhgtB3 3 3 = true := by decide +kernel
set_option maxRecDepth 100000 in
theorem fhgt_4_3 : fhgtB3 4 3 = true := by decide +kernel
set_option maxRecDepth 100000 in
theorem fhgt_5_3 : fhgtB3 5 3 = true := by decide +kernel
set_option maxRecDepth 100000 in
theorem fhgt_6_3 : fhgtB3 6 3 = true := by decide +kernel
set_option maxRecDepth 100000 in
theorem fhgt_7_3 : fhgtB3 7 3 = true := by decide +kernel
set_option maxRecDepth 100000 in
theorem fhgt_8_3 : fhgtB3 8 3 = true := by decide +kernel
set_option maxRecDepth 100000 in
theorem fhgt_9_3 : fhgtB3 9 3 = true := by decide +kernel
set_option maxRecDepth 100000 in
theorem fhgt_10_3 : fhgtB3 10 3 = true := by decide +kernel
set_option maxRecDepth 100000 in
theorem fhgt_11_3 : fhgtB3 11 3 = true := by decide +kernel
set_option maxRecDepth 100000 in
theorem fhgt_12_3 : fhgtB3 12 3 = true := by decide +kernel
set_option maxRecDepth 100000 in
theorem fhgt_13_3 : fhgtB3 13 3 = true := by decide +kernel
set_option maxRecDepth 100000 in
theorem fhgt_14_3 : fhgtB3 14 3 = true := by decide +kernel
set_option maxRecDepth 100000 in
theorem fhgt_15_3 : fhgtB3 15 3 = true := by decide +kernel
set_option maxRecDepth 100000 in
theorem fhgt_16_3 : fhgtB3 16 3 = true := by decide +kernel
set_option maxRecDepth 100000 in
theorem fhgt_17_3 : fhgtB3 17 3 = true := by decide +kernel
set_option maxRecDepth 100000 in
theorem fhgt_18_3 : fhgtB3 18 3 = true := by decide +kernel
set_option maxRecDepth 100000 in
theorem fhgt_19_3 : fhgtB3 19 3 = true := by decide +kernel
set_option maxRecDepth 100000 in
theorem fhgt_20_3 : fhgtB3 20 3 = true := by decide +kernel
set_option maxRecDepth 100000 in
theorem fhgt_21_3 : fhgtB3 21 3 = true := by decide +kernel
set_option maxRecDepth 100000 in
theorem fhgt_22_3 : fhgtB3 22 3 = true := by decide +kernel
set_option maxRecDepth 100000 in
theorem fhgt_23_3 : fhgtB3 23 3 = true := by decide +kernel
set_option maxRecDepth 100000 in
theorem fhgt_24_3 : fhgtB3 24 3 = true := by decide +kernel
set_option maxRecDepth 100000 in
theorem fhgt_25_3 : fhgtB3 25 3 = true := by decide +kernel
set_option maxRecDepth 100000 in
theorem fhgt_26_3 : fhgtB3 26 3 = true := by decide +kernel
set_option maxRecDepth 100000 in
theorem fhgt_27_3 : fhgtB3 27 3 = true := by decide +kernel
set_option maxRecDepth 100000 in
theorem fhgt_28_3 : fhgtB3 28 3 = true := by decide +kernel
set_option maxRecDepth 100000 in
theorem fhgt_29_3 : fhgtB3 29 3 = true := by decide +kernel
set_option maxRecDepth 100000 in
theorem fhgt_30_3 : fhgtB3 30 3 = true := by decide +kernel
set_option maxRecDepth 100000 in
theorem fhgt_31_3 : fhgtB3 31 3 = true := by decide +kernel
end Go.Proofs.Ytmloopjfjnjgiaa
