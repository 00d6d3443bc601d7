/-
  FlowHeights: cases, run (19).
-/
import Derived.Test.YtmloopjfjnjgiaaFlowRun
namespace Go.Proofs.Ytmloopjfjnjgiaa
open Go Vx

noncomputable def fhgtB19 (p : Nat) (q : Nat) : Bool := runM 4 [] [.and 0 31 p, .and 1 31 q] 3 [.int .i64 (.var 0), .int .i64 (.var 1)]
set_option maxRecDepth 100000 in
theorem fhgt_0_19 : fhgtB19 0 19 = true := by decide +kernel
set_option maxRecDepth 100000 in
theorem fhgt_1_19 : fhgtB19 1 19 = true := by decide +kernel
set_option maxRecDepth 100000 in
theorem fhgt_2_19 : fhgtB19 2 19 = true := by decide +kernel
set_option maxRecDepth 100000 in
theorem fhgt_3_19 : fhgtB19 3 19 = true := by decide +kernel
set_option maxRecDepth 100000 in
theorem fhgt_4_19 : fhgtB19 4 19 = true := by decide +kernel
set_option maxRecDepth 100000 in
theorem fhgt_5_19 : fhgtB19 5 19 = true := by decide +kernel
set_option maxRecDepth 100000 in
theorem fhgt_6_19 : fhgtB19 6 19 = true := by decide +kernel
set_option maxRecDepth 100000 in
theorem fhgt_7_19 : fhgtB19 7 19 = true := by decide +kernel
set_option maxRecDepth 100000 in
theorem fhgt_8_19 : fhgtB19 8 19 = true := by decide +kernel
set_option maxRecDepth 100000 in
theorem fhgt_9_19 : fhgtB19 9 19 = true := by decide +kernel
set_option maxRecDepth 100000 in
theorem fhgt_10_19 : fhgtB19 10 19 = true := by decide +kernel
set_option maxRecDepth 100000 in
theorem fhgt_11_19 : fhgtB19 11 19 = true := by decide +kernel
set_option maxRecDepth 100000 in
theorem fhgt_12_19 : fhgtB19 12 19 = true := by decide +kernel
set_option maxRecDepth 100000 in
theorem fhgt_13_19 : fhgtB19 13 19 = true := by decide +kernel
set_option maxRecDepth 100000 in
theorem fhgt_14_19 : fhgtB19 14 19 = true := by decide +kernel
set_option maxRecDepth 100000 in
theorem fhgt_15_19 : fhgtB19 15 19 = true := by decide +kernel
set_option maxRecDepth 100000 in
theorem fhgt_16_19 : fhgtB19 16 19 = true := by decide +kernel
set_option maxRecDepth 100000 in
theorem fhgt_17_19 : fhgtB19 17 19 = true := by decide +kernel
set_option maxRecDepth 100000 in
theorem fhgt_18_19 : fhgtB19 18 19 = true := by decide +kernel
set_option maxRecDepth 100000 in
theorem fhgt_19_19 : fhgtB19 19 19 = true := by decide +kernel
set_option maxRecDepth 100000 in
theorem fhgt_20_19 : fhgtB19 20 19 = true := by decide +kernel
set_option maxRecDepth 100000 in
theorem fhgt_21_19 : fhgtB19 21 19 = true := by decide +kernel
set_option maxRecDepth 100000 in
theorem fhgt_22_19 : fhgtB19 22 19 = true := by decide +kernel
set_option maxRecDepth 100000 in
theorem fhgt_23_19 : fhgtB19 23 19 = true := by decide +kernel
set_option maxRecDepth 100000 in
theorem fhgt_24_19 : fhgtB19 24 19 = true := by decide +kernel
set_option maxRecDepth 100000 in
theorem fhgt_25_19 : fhgtB19 25 19 = true := by decide +kernel
set_option maxRecDepth 100000 in
theorem fhgt_26_19 : fhgtB19 26 19 = true := by decide +kernel
set_option maxRecDepth 100000 in
theorem fhgt_27_19 : fhgtB19 27 19 = true := by decide +kernel
set_option maxRecDepth 100000 in
theorem fhgt_28_19 : fhgtB19 28 19 = true := by decide +kernel
set_option maxRecDepth 100000 in
theorem fhgt_29_19 : fhgtB19 29 19 = true := by decide +kernel
set_option maxRecDepth 100000 in
theorem fhgt_30_19 : fhgtB19 30 19 = true := by decide +kernel
set_option maxRecDepth 100000 in
theorem fhgt_31_19 : fhgtB19 31 19 = true := by decide +kernel
end Go.Proofs.Ytmloopjfjnjgiaa
