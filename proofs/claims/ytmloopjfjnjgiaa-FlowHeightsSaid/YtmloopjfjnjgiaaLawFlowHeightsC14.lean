/-
  FlowHeights: cases, run (14).
-/
import Derived.Test.YtmloopjfjnjgiaaFlowRun
namespace Go.Proofs.Ytmloopjfjnjgiaa
open Go Vx

noncomputable def fhgtB14 (p : Nat) (q : Nat) : Bool := runM 4 [] [.and 0 31 p, .and 1 31 q] 3 [.int .i64 (.var 0), .int .i64 (.var 1)]
set_option maxRecDepth 100000 in
theorem fhgt_0_14 : fhgtB14 0 14 = true := by decide +kernel
set_option maxRecDepth 100000 in
theorem fhgt_1_14 : fhgtB14 1 14 = true := by decide +kernel
set_option maxRecDepth 100000 in
theorem fhgt_2_14 : fhgtB14 2 14 = true := by decide +kernel
set_option maxRecDepth 100000 in
theorem fhgt_3_14 : fhgtB14 3 14 = true := by decide +kernel
set_option maxRecDepth 100000 in
theorem fhgt_4_14 : fhgtB14 4 14 = true := by decide +kernel
set_option maxRecDepth 100000 in
theorem fhgt_5_14 : fhgtB14 5 14 = true := by decide +kernel
set_option maxRecDepth 100000 in
theorem fhgt_6_14 : fhgtB14 6 14 = true := by decide +kernel
set_option maxRecDepth 100000 in
theorem fhgt_7_14 : fhgtB14 7 14 = true := by decide +kernel
set_option maxRecDepth 100000 in
theorem fhgt_8_14 : fhgtB14 8 14 = true := by decide +kernel
set_option maxRecDepth 100000 in
theorem fhgt_9_14 : fhgtB14 9 14 = true := by decide +kernel
set_option maxRecDepth 100000 in
theorem fhgt_10_14 : fhgtB14 10 14 = true := by decide +kernel
set_option maxRecDepth 100000 in
theorem fhgt_11_14 : fhgtB14 11 14 = true := by decide +kernel
set_option maxRecDepth 100000 in
theorem fhgt_12_14 : fhgtB14 12 14 = true := by decide +kernel
set_option maxRecDepth 100000 in
theorem fhgt_13_14 : fhgtB14 13 14 = true := by decide +kernel
set_option maxRecDepth 100000 in
theorem fhgt_14_14 : fhgtB14 14 14 = true := by decide +kernel
set_option maxRecDepth 100000 in
theorem fhgt_15_14 : fhgtB14 15 14 = true := by decide +kernel
set_option maxRecDepth 100000 in
theorem fhgt_16_14 : fhgtB14 16 14 = true := by decide +kernel
set_option maxRecDepth 100000 in
theorem fhgt_17_14 : fhgtB14 17 14 = true := by decide +kernel
set_option maxRecDepth 100000 in
theorem fhgt_18_14 : fhgtB14 18 14 = true := by decide +kernel
set_option maxRecDepth 100000 in
theorem fhgt_19_14 : fhgtB14 19 14 = true := by decide +kernel
set_option maxRecDepth 100000 in
theorem fhgt_20_14 : fhgtB14 20 14 = true := by decide +kernel
set_option maxRecDepth 100000 in
theorem fhgt_21_14 : fhgtB14 21 14 = true := by decide +kernel
set_option maxRecDepth 100000 in
theorem fhgt_22_14 : fhgtB14 22 14 = true := by decide +kernel
set_option maxRecDepth 100000 in
theorem fhgt_23_14 : fhgtB14 23 14 = true := by decide +kernel
set_option maxRecDepth 100000 in
theorem fhgt_24_14 : fhgtB14 24 14 = true := by decide +kernel
set_option maxRecDepth 100000 in
theorem fhgt_25_14 : fhgtB14 25 14 = true := by decide +kernel
set_option maxRecDepth 100000 in
theorem fhgt_26_14 : fhgtB14 26 14 = true := by decide +kernel
set_option maxRecDepth 100000 in
theorem fhgt_27_14 : fhgtB14 27 14 = true := by decide +kernel
set_option maxRecDepth 100000 in
theorem fhgt_28_14 : fhgtB14 28 14 = true := by decide +kernel
set_option maxRecDepth 100000 in
theorem fhgt_29_14 : fhgtB14 29 14 = true := by decide +kernel
set_option maxRecDepth 100000 in
theorem fhgt_30_14 : fhgtB14 30 14 = true := by decide +kernel
set_option maxRecDepth 100000 in
theorem fhgt_31_14 : fhgtB14 31 14 = true := by decide +kernel
end Go.Proofs.Ytmloopjfjnjgiaa
