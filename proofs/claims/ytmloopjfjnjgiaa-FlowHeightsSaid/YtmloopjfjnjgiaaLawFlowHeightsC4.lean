/-
  FlowHeights: cases, run (4).
-/
import Derived.Test.YtmloopjfjnjgiaaFlowRun
namespace Go.Proofs.Ytmloopjfjnjgiaa
open Go Vx

noncomputable def fhgtB4 (p : Nat) (q : Nat) : Bool := runM 4 [] [.and 0 31 p, .and 1 31 q] 3 [.int .i64 (.var 0), .int .i64 (.var 1)]
set_option maxRecDepth 100000 in
theorem fhgt_0_4 : fhgtB4 0 4 = true := by decide +kernel
set_option maxRecDepth 100000 in
theorem fhgt_1_4 : fhgtB4 1 4 = true := by decide +kernel
set_option maxRecDepth 100000 in
theorem fhgt_2_4 : fhgtB4 2 4 = true := by decide +kernel
set_option maxRecDepth 100000 in
theorem fhgt_3_4 : fhgtB4 3 4 = true := by decide +kernel
set_option maxRecDepth 100000 in
theorem fhgt_4_4 : fhgtB4 4 4 = true := by decide +kernel
set_option maxRecDepth 100000 in
theorem fhgt_5_4 : fhgtB4 5 4 = true := by decide +kernel
set_option maxRecDepth 100000 in
theorem fhgt_6_4 : fhgtB4 6 4 = true := by decide +kernel
set_option maxRecDepth 100000 in
theorem fhgt_7_4 : fhgtB4 7 4 = true := by decide +kernel
set_option maxRecDepth 100000 in
theorem fhgt_8_4 : fhgtB4 8 4 = true := by decide +kernel
set_option maxRecDepth 100000 in
theorem fhgt_9_4 : fhgtB4 9 4 = true := by decide +kernel
set_option maxRecDepth 100000 in
theorem fhgt_10_4 : fhgtB4 10 4 = true := by decide +kernel
set_option maxRecDepth 100000 in
theorem fhgt_11_4 : fhgtB4 11 4 = true := by decide +kernel
set_option maxRecDepth 100000 in
theorem fhgt_12_4 : fhgtB4 12 4 = true := by decide +kernel
set_option maxRecDepth 100000 in
theorem fhgt_13_4 : fhgtB4 13 4 = true := by decide +kernel
set_option maxRecDepth 100000 in
theorem fhgt_14_4 : fhgtB4 14 4 = true := by decide +kernel
set_option maxRecDepth 100000 in
theorem fhgt_15_4 : fhgtB4 15 4 = true := by decide +kernel
set_option maxRecDepth 100000 in
theorem fhgt_16_4 : fhgtB4 16 4 = true := by decide +kernel
set_option maxRecDepth 100000 in
theorem fhgt_17_4 : fhgtB4 17 4 = true := by decide +kernel
set_option maxRecDepth 100000 in
theorem fhgt_18_4 : fhgtB4 18 4 = true := by decide +kernel
set_option maxRecDepth 100000 in
theorem fhgt_19_4 : fhgtB4 19 4 = true := by decide +kernel
set_option maxRecDepth 100000 in
theorem fhgt_20_4 : fhgtB4 20 4 = true := by decide +kernel
set_option maxRecDepth 100000 in
theorem fhgt_21_4 : fhgtB4 21 4 = true := by decide +kernel
set_option maxRecDepth 100000 in
theorem fhgt_22_4 : fhgtB4 22 4 = true := by decide +kernel
set_option maxRecDepth 100000 in
theorem fhgt_23_4 : fhgtB4 23 4 = true := by decide +kernel
set_option maxRecDepth 100000 in
theorem fhgt_24_4 : fhgtB4 24 4 = true := by decide +kernel
set_option maxRecDepth 100000 in
theorem fhgt_25_4 : fhgtB4 25 4 = true := by decide +kernel
set_option maxRecDepth 100000 in
theorem fhgt_26_4 : fhgtB4 26 4 = true := by decide +kernel
set_option maxRecDepth 100000 in
theorem fhgt_27_4 : fhgtB4 27 4 = true := by decide +kernel
set_option maxRecDepth 100000 in
theorem fhgt_28_4 : fhgtB4 28 4 = true := by decide +kernel
set_option maxRecDepth 100000 in
theorem fhgt_29_4 : fhgtB4 29 4 = true := by decide +kernel
set_option maxRecDepth 100000 in
theorem fhgt_30_4 : fhgtB4 30 4 = true := by decide +kernel
set_option maxRecDepth 100000 in
theorem fhgt_31_4 : fhgtB4 31 4 = true := by decide +kernel
end Go.Proofs.Ytmloopjfjnjgiaa
