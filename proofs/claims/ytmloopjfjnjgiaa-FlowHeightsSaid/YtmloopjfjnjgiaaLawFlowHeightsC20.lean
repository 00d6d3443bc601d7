/-
  FlowHeights: cases, run (20).
-/
import Derived.Test.YtmloopjfjnjgiaaFlowRun
namespace Go.Proofs.Ytmloopjfjnjgiaa
open Go Vx

noncomputable def fhgtB20 (p : Nat) (q : Nat) : Bool := runM 4 [] [.and 0 31 p, .and 1 31 q] 3 [.int .i64 (.var 0), .int .i64 (.var 1)]
set_option maxRecDepth 100000 in
theorem fhgt_0_20 : fhgtB20 0 20 = true := by decide +kernel
set_option maxRecDepth 100000 in
theorem fhgt_1_20 : fhgtB20 1 20 = true := by decide +kernel
set_option maxRecDepth 100000 in
theorem fhgt_2_20 : fhgtB20 2 20 = true := by decide +kernel
set_option maxRecDepth 100000 in
theorem fhgt_3_20 : fhgtB20 3 20 = true := by decide +kernel
set_option maxRecDepth 100000 in
theorem fhgt_4_20 : fhgtB20 4 20 = true := by decide +kernel
set_option maxRecDepth 100000 in
theorem fhgt_5_20 : fhgtB20 5 20 = true := by decide +kernel
set_option maxRecDepth 100000 in
theorem fhgt_6_20 : fhgtB20 6 20 = true := by decide +kernel
set_option maxRecDepth 100000 in
theorem fhgt_7_20 : fhgtB20 7 20 = true := by decide +kernel
set_option maxRecDepth 100000 in
theorem fhgt_8_20 : fhgtB20 8 20 = true := by decide +kernel
set_option maxRecDepth 100000 in
theorem fhgt_9_20 : fhgtB20 9 20 = true := by decide +kernel
set_option maxRecDepth 100000 in
theorem fhgt_10_20 : fhgtB20 10 20 = true := by decide +kernel
set_option maxRecDepth 100000 in
theorem fhgt_11_20 : fhgtB20 11 20 = true := by decide +kernel
set_option maxRecDepth 100000 in
theorem fhgt_12_20 : fhgtB20 12 20 = true := by decide +kernel
set_option maxRecDepth 100000 in
theorem fhgt_13_20 : fhgtB20 13 20 = true := by decide +kernel
set_option maxRecDepth 100000 in
theorem fhgt_14_20 : fhgtB20 14 20 = true := by decide +kernel
set_option maxRecDepth 100000 in
theorem fhgt_15_20 : fhgtB20 15 20 = true := by decide +kernel
set_option maxRecDepth 100000 in
theorem fhgt_16_20 : fhgtB20 16 20 = true := by decide +kernel
set_option maxRecDepth 100000 in
theorem fhgt_17_20 : fhgtB20 17 20 = true := by decide +kernel
set_option maxRecDepth 100000 in
theorem fhgt_18_20 : fhgtB20 18 20 = true := by decide +kernel
set_option maxRecDepth 100000 in
theorem fhgt_19_20 : fhgtB20 19 20 = true := by decide +kernel
set_option maxRecDepth 100000 in
theorem fhgt_20_20 : fhgtB20 20 20 = true := by decide +kernel
set_option maxRecDepth 100000 in
theorem fhgt_21_20 : fhgtB20 21 20 = true := by decide +kernel
set_option maxRecDepth 100000 in
theorem fhgt_22_20 : fhgtB20 22 20 = true := by decide +kernel
set_option maxRecDepth 100000 in
theorem fhgt_23_20 : fhgtB20 23 20 = true := by decide +kernel
set_option maxRecDepth 100000 in
theorem fhgt_24_20 : fhgtB20 24 20 = true := by decide +kernel
set_option maxRecDepth 100000 in
theorem fhgt_25_20 : fhgtB20 25 20 = true := by decide +kernel
set_option maxRecDepth 100000 in
theorem fhgt_26_20 : fhgtB20 26 20 = true := by decide +kernel
set_option maxRecDepth 100000 in
theorem fhgt_27_20 : fhgtB20 27 20 = true := by decide +kernel
set_option maxRecDepth 100000 in
theorem fhgt_28_20 : fhgtB20 28 20 = true := by decide +kernel
set_option maxRecDepth 100000 in
theorem fhgt_29_20 : fhgtB20 29 20 = true := by decide +kernel
set_option maxRecDepth 100000 in
theorem fhgt_30_20 : fhgtB20 30 20 = true := by decide +kernel
set_option maxRecDepth 100000 in
theorem fhgt_31_20 : fhgtB20 31 20 = true := by decide +kernel
end Go.Proofs.Ytmloopjfjnjgiaa
