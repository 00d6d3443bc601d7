/-
  FlowHeights: cases, run (5).
-/
import Derived.Test.YtmloopjfjnjgiaaFlowRun
namespace Go.Proofs.Ytmloopjfjnjgiaa
open Go Vx

noncomputable def fhgtB5 (p : Nat) (q : Nat) : Bool := runM 4 [] [.and 0 31 p, .and 1 31 q] 3 [.int .i64 (.var 0), .int .i64 (.var 1)]
set_option maxRecDepth 100000 in
theorem fhgt_0_5 : fhgtB5 0 5 = true := by decide +kernel
set_option maxRecDepth 100000 in
theorem fhgt_1_5 : fhgtB5 1 5 = true := by decide +kernel
set_option maxRecDepth 100000 in
theorem fhgt_2_5 : fhgtB5 2 5 = true := by decide +kernel
set_option maxRecDepth 100000 in
theorem fhgt_3_5 : fhgtB5 3 5 = true := by decide +kernel
set_option maxRecDepth 100000 in
theorem fhgt_4_5 : fhgtB5 4 5 = true := by decide +kernel
set_option maxRecDepth 100000 in
theorem fhgt_5_5 : fhgtB5 5 5 = true := by decide +kernel
set_option maxRecDepth 100000 in
theorem fhgt_6_5 : fhgtB5 6 5 = true := by decide +kernel
set_option maxRecDepth 100000 in
theorem fhgt_7_5 : fhgtB5 7 5 = true := by decide +kernel
set_option maxRecDepth 100000 in
theorem fhgt_8_5 : fhgtB5 8 5 = true := by decide +kernel
set_option maxRecDepth 100000 in
theorem fhgt_9_5 : fhgtB5 9 5 = true := by decide +kernel
set_option maxRecDepth 100000 in
theorem fhgt_10_5 : fhgtB5 10 5 = true := by decide +kernel
set_option maxRecDepth 100000 in
theorem fhgt_11_5 : fhgtB5 11 5 = true := by decide +kernel
set_option maxRecDepth 100000 in
theorem fhgt_12_5 : fhgtB5 12 5 = true := by decide +kernel
set_option maxRecDepth 100000 in
theorem fhgt_13_5 : fhgtB5 13 5 = true := by decide +kernel
set_option maxRecDepth 100000 in
theorem fhgt_14_5 : fhgtB5 14 5 = true := by decide +kernel
set_option maxRecDepth 100000 in
theorem fhgt_15_5 : fhgtB5 15 5 = true := by decide +kernel
set_option maxRecDepth 100000 in
theorem fhgt_16_5 : fhgtB5 16 5 = true := by decide +kernel
set_option maxRecDepth 100000 in
theorem fhgt_17_5 : fhgtB5 17 5 = true := by decide +kernel
set_option maxRecDepth 100000 in
theorem fhgt_18_5 : fhgtB5 18 5 = true := by decide +kernel
set_option maxRecDepth 100000 in
theorem fhgt_19_5 : fhgtB5 19 5 = true := by decide +kernel
set_option maxRecDepth 100000 in
theorem fhgt_20_5 : fhgtB5 20 5 = true := by decide +kernel
set_option maxRecDepth 100000 in
theorem fhgt_21_5 : fhgtB5 21 5 = true := by decide +kernel
set_option maxRecDepth 100000 in
theorem fhgt_22_5 : fhgtB5 22 5 = true := by decide +kernel
set_option maxRecDepth 100000 in
theorem fhgt_23_5 : fhgtB5 23 5 = true := by decide +kernel
set_option maxRecDepth 100000 in
theorem fhgt_24_5 : fhgtB5 24 5 = true := by decide +kernel
set_option maxRecDepth 100000 in
theorem fhgt_25_5 : fhgtB5 25 5 = true := by decide +kernel
set_option maxRecDepth 100000 in
theorem fhgt_26_5 : fhgtB5 26 5 = true := by decide +kernel
set_option maxRecDepth 100000 in
theorem fhgt_27_5 : fhgtB5 27 5 = true := by decide +kernel
set_option maxRecDepth 100000 in
theorem fhgt_28_5 : fhgtB5 28 5 = true := by decide +kernel
set_option maxRecDepth 100000 in
theorem fhgt_29_5 : fhgtB5 29 5 = true := by decide +kernel
set_option maxRecDepth 100000 in
theorem fhgt_30_5 : fhgtB5 30 5 = true := by decide +kernel
set_option maxRecDepth 100000 in
theorem fhgt_31_5 : fhgtB5 31 5 = true := by decide +kernel
end Go.Proofs.Ytmloopjfjnjgiaa
