/-
  FlowHeights: cases, run (11).
-/
import Derived.Test.YtmloopjfjnjgiaaFlowRun
namespace Go.Proofs.Ytmloopjfjnjgiaa
open Go Vx

noncomputable def fhgtB11 (p : Nat) (q : Nat) : Bool := runM 4 [] [.and 0 31 p, .and 1 31 q] 3 [.int .i64 (.var 0), .int .i64 (.var 1)]
set_option maxRecDepth 100000 in
theorem fhgt_0_11 : fhgtB11 0 11 = true := by decide +kernel
set_option maxRecDepth 100000 in
theorem fhgt_1_11 : fhgtB11 1 11 = true := by decide +kernel
set_option maxRecDepth 100000 in
theorem fhgt_2_11 : fhgtB11 2 11 = true := by decide +kernel
set_option maxRecDepth 100000 in
theorem fhgt_3_11 : fhgtB11 3 11 = true := by decide +kernel
set_option maxRecDepth 100000 in
theorem fhgt_4_11 : fhgtB11 4 11 = true := by decide +kernel
set_option maxRecDepth 100000 in
theorem fhgt_5_11 : fhgtB11 5 11 = true := by decide +kernel
set_option maxRecDepth 100000 in
theorem fhgt_6_11 : fhgtB11 6 11 = true := by decide +kernel
set_option maxRecDepth 100000 in
theorem fhgt_7_11 : fhgtB11 7 11 = true := by decide +kernel
set_option maxRecDepth 100000 in
theorem fhgt_8_11 : fhgtB11 8 11 = true := by decide +kernel
set_option maxRecDepth 100000 in
theorem fhgt_9_11 : fhgtB11 9 11 = true := by decide +kernel
set_option maxRecDepth 100000 in
theorem fhgt_10_11 : fhgtB11 10 11 = true := by decide +kernel
set_option maxRecDepth 100000 in
theorem fhgt_11_11 : fhgtB11 11 11 = true := by decide +kernel
set_option maxRecDepth 100000 in
theorem fhgt_12_11 : fhgtB11 12 11 = true := by decide +kernel
set_option maxRecDepth 100000 in
theorem fhgt_13_11 : fhgtB11 13 11 = true := by decide +kernel
set_option maxRecDepth 100000 in
theorem fhgt_14_11 : fhgtB11 14 11 = true := by decide +kernel
set_option maxRecDepth 100000 in
theorem fhgt_15_11 : fhgtB11 15 11 = true := by decide +kernel
set_option maxRecDepth 100000 in
theorem fhgt_16_11 : fhgtB11 16 11 = true := by decide +kernel
set_option maxRecDepth 100000 in
theorem fhgt_17_11 : fhgtB11 17 11 = true := by decide +kernel
set_option maxRecDepth 100000 in
theorem fhgt_18_11 : fhgtB11 18 11 = true := by decide +kernel
set_option maxRecDepth 100000 in
theorem fhgt_19_11 : fhgtB11 19 11 = true := by decide +kernel
set_option maxRecDepth 100000 in
theorem fhgt_20_11 : fhgtB11 20 11 = true := by decide +kernel
set_option maxRecDepth 100000 in
theorem fhgt_21_11 : fhgtB11 21 11 = true := by decide +kernel
set_option maxRecDepth 100000 in
theorem fhgt_22_11 : fhgtB11 22 11 = true := by decide +kernel
set_option maxRecDepth 100000 in
theorem fhgt_23_11 : fhgtB11 23 11 = true := by decide +kernel
set_option maxRecDepth 100000 in
theorem fhgt_24_11 : fhgtB11 24 11 = true := by decide +kernel
set_option maxRecDepth 100000 in
theorem fhgt_25_11 : fhgtB11 25 11 = true := by decide +kernel
set_option maxRecDepth 100000 in
theorem fhgt_26_11 : fhgtB11 26 11 = true := by decide +kernel
set_option maxRecDepth 100000 in
theorem fhgt_27_11 : fhgtB11 27 11 = true := by decide +kernel
set_option maxRecDepth 100000 in
theorem fhgt_28_11 : fhgtB11 28 11 = true := by decide +kernel
set_option maxRecDepth 100000 in
theorem fhgt_29_11 : fhgtB11 29 11 = true := by decide +kernel
set_option maxRecDepth 100000 in
theorem fhgt_30_11 : fhgtB11 30 11 = true := by decide +kernel
set_option maxRecDepth 100000 in
theorem fhgt_31_11 : fhgtB11 31 11 = true := by decide +kernel
end Go.Proofs.Ytmloopjfjnjgiaa
