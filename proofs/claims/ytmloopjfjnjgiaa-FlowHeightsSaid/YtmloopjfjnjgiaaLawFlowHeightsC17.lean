/-
  FlowHeights: cases, run (17).
-/
import Derived.Test.YtmloopjfjnjgiaaFlowRun
namespace Go.Proofs.Ytmloopjfjnjgiaa
open Go Vx

noncomputable def fhgtB17 (p : Nat) (q : Nat) : Bool := runM 4 [] [.and 0 31 p, .and 1 31 q] 3 [.int .i64 (.var 0), .int .i64 (.var 1)]
set_option maxRecDepth 100000 in
theorem fhgt_0_17 : fhgtB17 0 17 = true := by decide +kernel
set_option maxRecDepth 100000 in
theorem fhgt_1_17 : fhgtB17 1 17 = true := by decide +kernel
set_option maxRecDepth 100000 in
theorem fhgt_2_17 : fhgtB17 2 17 = true := by decide +kernel
set_option maxRecDepth 100000 in
theorem fhgt_3_17 : fhgtB17 3 17 = true := by decide +kernel
set_option maxRecDepth 100000 in
theorem fhgt_4_17 : fhgtB17 4 17 = true := by decide +kernel
set_option maxRecDepth 100000 in
theorem fhgt_5_17 : fhgtB17 5 17 = true := by decide +kernel
set_option maxRecDepth 100000 in
theorem fhgt_6_17 : fhgtB17 6 17 = true := by decide +kernel
set_option maxRecDepth 100000 in
theorem fhgt_7_17 : fhgtB17 7 17 = true := by decide +kernel
set_option maxRecDepth 100000 in
theorem fhgt_8_17 : fhgtB17 8 17 = true := by decide +kernel
set_option maxRecDepth 100000 in
theorem fhgt_9_17 : fhgtB17 9 17 = true := by decide +kernel
set_option maxRecDepth 100000 in
theorem fhgt_10_17 : fhgtB17 10 17 = true := by decide +kernel
set_option maxRecDepth 100000 in
theorem fhgt_11_17 : fhgtB17 11 17 = true := by decide +kernel
set_option maxRecDepth 100000 in
theorem fhgt_12_17 : fhgtB17 12 17 = true := by decide +kernel
set_option maxRecDepth 100000 in
theorem fhgt_13_17 : fhgtB17 13 17 = true := by decide +kernel
set_option maxRecDepth 100000 in
theorem fhgt_14_17 : fhgtB17 14 17 = true := by decide +kernel
set_option maxRecDepth 100000 in
theorem fhgt_15_17 : fhgtB17 15 17 = true := by decide +kernel
set_option maxRecDepth 100000 in
theorem fhgt_16_17 : fhgtB17 16 17 = true := by decide +kernel
set_option maxRecDepth 100000 in
theorem fhgt_17_17 : fhgtB17 17 17 = true := by decide +kernel
set_option maxRecDepth 100000 in
theorem fhgt_18_17 : fhgtB17 18 17 = true := by decide +kernel
set_option maxRecDepth 100000 in
theorem fhgt_19_17 : fhgtB17 19 17 = true := by decide +kernel
set_option maxRecDepth 100000 in
theorem fhgt_20_17 : fhgtB17 20 17 = true := by decide +kernel
set_option maxRecDepth 100000 in
theorem fhgt_21_17 : fhgtB17 21 17 = true := by decide +kernel
set_option maxRecDepth 100000 in
theorem fhgt_22_17 : fhgtB17 22 17 = true := by decide +kernel
set_option maxRecDepth 100000 in
theorem fhgt_23_17 : fhgtB17 23 17 = true := by decide +kernel
set_option maxRecDepth 100000 in
theorem fhgt_24_17 : fhgtB17 24 17 = true := by decide +kernel
set_option maxRecDepth 100000 in
theorem fhgt_25_17 : fhgtB17 25 17 = true := by decide +kernel
set_option maxRecDepth 100000 in
theorem fhgt_26_17 : fhgtB17 26 17 = true := by decide +kernel
set_option maxRecDepth 100000 in
theorem fhgt_27_17 : fhgtB17 27 17 = true := by decide +kernel
set_option maxRecDepth 100000 in
theorem fhgt_28_17 : fhgtB17 28 17 = true := by decide +kernel
set_option maxRecDepth 100000 in
theorem fhgt_29_17 : fhgtB17 29 17 = true := by decide +kernel
set_option maxRecDepth 100000 in
theorem fhgt_30_17 : fhgtB17 30 17 = true := by decide +kernel
set_option maxRecDepth 100000 in
theorem fhgt_31_17 : fhgtB17 31 17 = true := by decide +kernel
end Go.Proofs.Ytmloopjfjnjgiaa
