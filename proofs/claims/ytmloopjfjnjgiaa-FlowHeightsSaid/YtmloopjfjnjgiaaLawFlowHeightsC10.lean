/-
  FlowHeights: cases, run (10).
-/
import Derived.Test.YtmloopjfjnjgiaaFlowRun
namespace Go.Proofs.Ytmloopjfjnjgiaa
open Go Vx

noncomputable def fhgtB10 (p : Nat) (q : Nat) : Bool := runM 4 [] [.and 0 31 p, .and 1 31 q] 3 [.int .i64 (.var 0), .int .i64 (.var 1)]
set_option maxRecDepth 100000 in
theorem fhgt_0_10 : fhgtB10 0 10 = true := by decide +kernel
set_option maxRecDepth 100000 in
theorem fhgt_1_10 : fhgtB10 1 10 = true := by decide +kernel
set_option maxRecDepth 100000 in
theorem fhgt_2_10 : fhgtB10 2 10 = true := by decide +kernel
set_option maxRecDepth 100000 in
theorem fhgt_3_10 : fhgtB10 3 10 = true := by decide +kernel
set_option maxRecDepth 100000 in
theorem fhgt_4_10 : fhgtB10 4 10 = true := by decide +kernel
set_option maxRecDepth 100000 in
theorem fhgt_5_10 : fhgtB10 5 10 = true := by decide +kernel
set_option maxRecDepth 100000 in
theorem fhgt_6_10 : fhgtB10 6 10 = true := by decide +kernel
set_option maxRecDepth 100000 in
theorem fhgt_7_10 : fhgtB10 7 10 = true := by decide +kernel
set_option maxRecDepth 100000 in
theorem fhgt_8_10 : fhgtB10 8 10 = true := by decide +kernel
set_option maxRecDepth 100000 in
theorem fhgt_9_10 : fhgtB10 9 10 = true := by decide +kernel
set_option maxRecDepth 100000 in
theorem fhgt_10_10 : fhgtB10 10 10 = true := by decide +kernel
set_option maxRecDepth 100000 in
theorem fhgt_11_10 : fhgtB10 11 10 = true := by decide +kernel
set_option maxRecDepth 100000 in
theorem fhgt_12_10 : fhgtB10 12 10 = true := by decide +kernel
set_option maxRecDepth 100000 in
theorem fhgt_13_10 : fhgtB10 13 10 = true := by decide +kernel
set_option maxRecDepth 100000 in
theorem fhgt_14_10 : fhgtB10 14 10 = true := by decide +kernel
set_option maxRecDepth 100000 in
theorem fhgt_15_10 : fhgtB10 15 10 = true := by decide +kernel
set_option maxRecDepth 100000 in
theorem fhgt_16_10 : fhgtB10 16 10 = true := by decide +kernel
set_option maxRecDepth 100000 in
theorem fhgt_17_10 : fhgtB10 17 10 = true := by decide +kernel
set_option maxRecDepth 100000 in
theorem fhgt_18_10 : fhgtB10 18 10 = true := by decide +kernel
set_option maxRecDepth 100000 in
theorem fhgt_19_10 : fhgtB10 19 10 = true := by decide +kernel
set_option maxRecDepth 100000 in
theorem fhgt_20_10 : fhgtB10 20 10 = true := by decide +kernel
set_option maxRecDepth 100000 in
theorem fhgt_21_10 : fhgtB10 21 10 = true := by decide +kernel
set_option maxRecDepth 100000 in
theorem fhgt_22_10 : fhgtB10 22 10 = true := by decide +kernel
set_option maxRecDepth 100000 in
theorem fhgt_23_10 : fhgtB10 23 10 = true := by decide +kernel
set_option maxRecDepth 100000 in
theorem fhgt_24_10 : fhgtB10 24 10 = true := by decide +kernel
set_option maxRecDepth 100000 in
theorem fhgt_25_10 : fhgtB10 25 10 = true := by decide +kernel
set_option maxRecDepth 100000 in
theorem fhgt_26_10 : fhgtB10 26 10 = true := by decide +kernel
set_option maxRecDepth 100000 in
theorem fhgt_27_10 : fhgtB10 27 10 = true := by decide +kernel
set_option maxRecDepth 100000 in
theorem fhgt_28_10 : fhgtB10 28 10 = true := by decide +kernel
set_option maxRecDepth 100000 in
theorem fhgt_29_10 : fhgtB10 29 10 = true := by decide +kernel
set_option maxRecDepth 100000 in
theorem fhgt_30_10 : fhgtB10 30 10 = true := by decide +kernel
set_option maxRecDepth 100000 in
theorem fhgt_31_10 : fhgtB10 31 10 = true := by decide +kernel
end Go.Proofs.Ytmloopjfjnjgiaa
