/-
  FlowHeights: cases, run (13).
-/
import Derived.Test.YtmloopjfjnjgiaaFlowRun
namespace Go.Proofs.Ytmloopjfjnjgiaa
open Go Vx

noncomputable def fhgtB13 (p : Nat) (q : Nat) : Bool := runM 4 [] [.and 0 31 p, .and 1 31 q] 3 [.int .i64 (.var 0), .int .i64 (.var 1)]
set_option maxRecDepth 100000 in
theorem fhgt_0_13 : fhgtB13 0 13 = true := by decide +kernel
set_option maxRecDepth 100000 in
theorem fhgt_1_13 : fhgtB13 1 13 = true := by decide +kernel
set_option maxRecDepth 100000 in
theorem fhgt_2_13 : fhgtB13 2 13 = true := by decide +kernel
set_option maxRecDepth 100000 in
theorem fhgt_3_13 : fhgtB13 3 13 = true := by decide +kernel
set_option maxRecDepth 100000 in
theorem fhgt_4_13 : fhgtB13 4 13 = true := by decide +kernel
set_option maxRecDepth 100000 in
theorem fhgt_5_13 : fhgtB13 5 13 = true := by decide +kernel
set_option maxRecDepth 100000 in
theorem fhgt_6_13 : fhgtB13 6 13 = true := by decide +kernel
set_option maxRecDepth 100000 in
theorem fhgt_7_13 : fhgtB13 7 13 = true := by decide +kernel
set_option maxRecDepth 100000 in
theorem fhgt_8_13 : fhgtB13 8 13 = true := by decide +kernel
set_option maxRecDepth 100000 in
theorem fhgt_9_13 : fhgtB13 9 13 = true := by decide +kernel
set_option maxRecDepth 100000 in
theorem fhgt_10_13 : fhgtB13 10 13 = true := by decide +kernel
set_option maxRecDepth 100000 in
theorem fhgt_11_13 : fhgtB13 11 13 = true := by decide +kernel
set_option maxRecDepth 100000 in
theorem fhgt_12_13 : fhgtB13 12 13 = true := by decide +kernel
set_option maxRecDepth 100000 in
theorem fhgt_13_13 : fhgtB13 13 13 = true := by decide +kernel
set_option maxRecDepth 100000 in
theorem fhgt_14_13 : fhgtB13 14 13 = true := by decide +kernel
set_option maxRecDepth 100000 in
theorem fhgt_15_13 : fhgtB13 15 13 = true := by decide +kernel
set_option maxRecDepth 100000 in
theorem fhgt_16_13 : fhgtB13 16 13 = true := by decide +kernel
set_option maxRecDepth 100000 in
theorem fhgt_17_13 : fhgtB13 17 13 = true := by decide +kernel
set_option maxRecDepth 100000 in
theorem fhgt_18_13 : fhgtB13 18 13 = true := by decide +kernel
set_option maxRecDepth 100000 in
theorem fhgt_19_13 : fhgtB13 19 13 = true := by decide +kernel
set_option maxRecDepth 100000 in
theorem fhgt_20_13 : fhgtB13 20 13 = true := by decide +kernel
set_option maxRecDepth 100000 in
theorem fhgt_21_13 : fhgtB13 21 13 = true := by decide +kernel
set_option maxRecDepth 100000 in
theorem fhgt_22_13 : fhgtB13 22 13 = true := by decide +kernel
set_option maxRecDepth 100000 in
theorem fhgt_23_13 : fhgtB13 23 13 = true := by decide +kernel
set_option maxRecDepth 100000 in
theorem fhgt_24_13 : fhgtB13 24 13 = true := by decide +kernel
set_option maxRecDepth 100000 in
theorem fhgt_25_13 : fhgtB13 25 13 = true := by decide +kernel
set_option maxRecDepth 100000 in
theorem fhgt_26_13 : fhgtB13 26 13 = true := by decide +kernel
set_option maxRecDepth 100000 in
theorem fhgt_27_13 : fhgtB13 27 13 = true := by decide +kernel
set_option maxRecDepth 100000 in
theorem fhgt_28_13 : fhgtB13 28 13 = true := by decide +kernel
set_option maxRecDepth 100000 in
theorem fhgt_29_13 : fhgtB13 29 13 = true := by decide +kernel
set_option maxRecDepth 100000 in
theorem fhgt_30_13 : fhgtB13 30 13 = true := by decide +kernel
set_option maxRecDepth 100000 in
theorem fhgt_31_13 : fhgtB13 31 13 = true := by decide +kernel
end Go.Proofs.Ytmloopjfjnjgiaa
