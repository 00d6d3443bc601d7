/-
  FlowHeights: cases, run (8).
-/
import Derived.Test.YtmloopjfjnjgiaaFlowRun
namespace Go.Proofs.Ytmloopjfjnjgiaa
open Go Vx

noncomputable def fhgtB8 (p : Nat) (q : Nat) : Bool := runM 4 [] [.and 0 31 p, .and 1 31 q] 3 [.int .i64 (.var 0), .int .i64 (.var 1)]
set_option maxRecDepth 100000 in
theorem fhgt_0_8 : fhgtB8 0 8 = true := by decide +kernel
set_option maxRecDepth 100000 in
theorem fhgt_1_8 : fhgtB8 1 8 = true := by decide +kernel
set_option maxRecDepth 100000 in
theorem fhgt_2_8 : fhgtB8 2 8 = true := by decide +kernel
set_option maxRecDepth 100000 in
theorem fhgt_3_8 : fhgtB8 3 8 = true := by decide +kernel
set_option maxRecDepth 100000 in
theorem fhgt_4_8 : fhgtB8 4 8 = true := by decide +kernel
set_option maxRecDepth 100000 in
theorem fhgt_5_8 : fhgtB8 5 8 = true := by decide +kernel
set_option maxRecDepth 100000 in
theorem fhgt_6_8 : fhgtB8 6 8 = true := by decide +kernel
set_option maxRecDepth 100000 in
theorem fhgt_7_8 : fhgtB8 7 8 = true := by decide +kernel
set_option maxRecDepth 100000 in
theorem fhgt_8_8 : fhgtB8 8 8 = true := by decide +kernel
set_option maxRecDepth 100000 in
theorem fhgt_9_8 : fhgtB8 9 8 = true := by decide +kernel
set_option maxRecDepth 100000 in
theorem fhgt_10_8 : fhgtB8 10 8 = true := by decide +kernel
set_option maxRecDepth 100000 in
theorem fhgt_11_8 : fhgtB8 11 8 = true := by decide +kernel
set_option maxRecDepth 100000 in
theorem fhgt_12_8 : fhgtB8 12 8 = true := by decide +kernel
set_option maxRecDepth 100000 in
theorem fhgt_13_8 : fhgtB8 13 8 = true := by decide +kernel
set_option maxRecDepth 100000 in
theorem fhgt_14_8 : fhgtB8 14 8 = true := by decide +kernel
set_option maxRecDepth 100000 in
theorem fhgt_15_8 : fhgtB8 15 8 = true := by decide +kernel
set_option maxRecDepth 100000 in
theorem fhgt_16_8 : fhgtB8 16 8 = true := by decide +kernel
set_option maxRecDepth 100000 in
theorem fhgt_17_8 : fhgtB8 17 8 = true := by decide +kernel
set_option maxRecDepth 100000 in
theorem fhgt_18_8 : fhgtB8 18 8 = true := by decide +kernel
set_option maxRecDepth 100000 in
theorem fhgt_19_8 : fhgtB8 19 8 = true := by decide +kernel
set_option maxRecDepth 100000 in
theorem fhgt_20_8 : fhgtB8 20 8 = true := by decide +kernel
set_option maxRecDepth 100000 in
theorem fhgt_21_8 : fhgtB8 21 8 = true := by decide +kernel
set_option maxRecDepth 100000 in
theorem fhgt_22_8 : fhgtB8 22 8 = true := by decide +kernel
set_option maxRecDepth 100000 in
theorem fhgt_23_8 : fhgtB8 23 8 = true := by decide +kernel
set_option maxRecDepth 100000 in
theorem fhgt_24_8 : fhgtB8 24 8 = true := by decide +kernel
set_option maxRecDepth 100000 in
theorem fhgt_25_8 : fhgtB8 25 8 = true := by decide +kernel
set_option maxRecDepth 100000 in
theorem fhgt_26_8 : fhgtB8 26 8 = true := by decide +kernel
set_option maxRecDepth 100000 in
theorem fhgt_27_8 : fhgtB8 27 8 = true := by decide +kernel
set_option maxRecDepth 100000 in
theorem fhgt_28_8 : fhgtB8 28 8 = true := by decide +kernel
set_option maxRecDepth 100000 in
theorem fhgt_29_8 : fhgtB8 29 8 = true := by decide +kernel
set_option maxRecDepth 100000 in
theorem fhgt_30_8 : fhgtB8 30 8 = true := by decide +kernel
set_option maxRecDepth 100000 in
theorem fhgt_31_8 : fhgtB8 31 8 = true := by decide +kernel
end Go.Proofs.Ytmloopjfjnjgiaa
