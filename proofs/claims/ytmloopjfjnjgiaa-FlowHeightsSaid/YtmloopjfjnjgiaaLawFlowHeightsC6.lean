/-
  FlowHeights: cases, run (6).
-/
import Derived.Test.YtmloopjfjnjgiaaFlowRun
namespace Go.Proofs.Ytmloopjfjnjgiaa
open Go Vx

noncomputable def fhgtB6 (p : Nat) (q : Nat) : Bool := runM 4 [] [.and 0 31 p, .and 1 31 q] 3 [.int .i64 (.var 0), .int .i64 (.var 1)]
set_option maxRecDepth 100000 in
theorem fhgt_0_6 : fhgtB6 0 6 = true := by decide +kernel
set_option maxRecDepth 100000 in
theorem fhgt_1_6 : fhgtB6 1 6 = true := by decide +kernel
set_option maxRecDepth 100000 in
theorem fhgt_2_6 : fhgtB6 2 6 = true := by decide +kernel
set_option maxRecDepth 100000 in
theorem fhgt_3_6 : fhgtB6 3 6 = true := by decide +kernel
set_option maxRecDepth 100000 in
theorem fhgt_4_6 : fhgtB6 4 6 = true := by decide +kernel
set_option maxRecDepth 100000 in
theorem fhgt_5_6 : fhgtB6 5 6 = true := by decide +kernel
set_option maxRecDepth 100000 in
theorem fhgt_6_6 : fhgtB6 6 6 = true := by decide +kernel
set_option maxRecDepth 100000 in
theorem fhgt_7_6 : fhgtB6 7 6 = true := by decide +kernel
set_option maxRecDepth 100000 in
theorem fhgt_8_6 : fhgtB6 8 6 = true := by decide +kernel
set_option maxRecDepth 100000 in
theorem fhgt_9_6 : fhgtB6 9 6 = true := by decide +kernel
set_option maxRecDepth 100000 in
theorem fhgt_10_6 : fhgtB6 10 6 = true := by decide +kernel
set_option maxRecDepth 100000 in
theorem fhgt_11_6 : fhgtB6 11 6 = true := by decide +kernel
set_option maxRecDepth 100000 in
theorem fhgt_12_6 : fhgtB6 12 6 = true := by decide +kernel
set_option maxRecDepth 100000 in
theorem fhgt_13_6 : fhgtB6 13 6 = true := by decide +kernel
set_option maxRecDepth 100000 in
theorem fhgt_14_6 : fhgtB6 14 6 = true := by decide +kernel
set_option maxRecDepth 100000 in
theorem fhgt_15_6 : fhgtB6 15 6 = true := by decide +kernel
set_option maxRecDepth 100000 in
theorem fhgt_16_6 : fhgtB6 16 6 = true := by decide +kernel
set_option maxRecDepth 100000 in
theorem fhgt_17_6 : fhgtB6 17 6 = true := by decide +kernel
set_option maxRecDepth 100000 in
theorem fhgt_18_6 : fhgtB6 18 6 = true := by decide +kernel
set_option maxRecDepth 100000 in
theorem fhgt_19_6 : fhgtB6 19 6 = true := by decide +kernel
set_option maxRecDepth 100000 in
theorem fhgt_20_6 : fhgtB6 20 6 = true := by decide +kernel
set_option maxRecDepth 100000 in
theorem fhgt_21_6 : fhgtB6 21 6 = true := by decide +kernel
set_option maxRecDepth 100000 in
theorem fhgt_22_6 : fhgtB6 22 6 = true := by decide +kernel
set_option maxRecDepth 100000 in
theorem fhgt_23_6 : fhgtB6 23 6 = true := by decide +kernel
set_option maxRecDepth 100000 in
theorem fhgt_24_6 : fhgtB6 24 6 = true := by decide +kernel
set_option maxRecDepth 100000 in
theorem fhgt_25_6 : fhgtB6 25 6 = true := by decide +kernel
set_option maxRecDepth 100000 in
theorem fhgt_26_6 : fhgtB6 26 6 = true := by decide +kernel
set_option maxRecDepth 100000 in
theorem fhgt_27_6 : fhgtB6 27 6 = true := by decide +kernel
set_option maxRecDepth 100000 in
theorem fhgt_28_6 : fhgtB6 28 6 = true := by decide +kernel
set_option maxRecDepth 100000 in
theorem fhgt_29_6 : fhgtB6 29 6 = true := by decide +kernel
set_option maxRecDepth 100000 in
theorem fhgt_30_6 : fhgtB6 30 6 = true := by decide +kernel
set_option maxRecDepth 100000 in
theorem fhgt_31_6 : fhgtB6 31 6 = true := by decide +kernel
end Go.Proofs.Ytmloopjfjnjgiaa
