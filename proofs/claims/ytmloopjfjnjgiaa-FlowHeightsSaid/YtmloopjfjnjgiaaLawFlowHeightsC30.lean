/-
  FlowHeights: cases, run (30).
-/
import Derived.Test.YtmloopjfjnjgiaaFlowRun
namespace Go.Proofs.Ytmloopjfjnjgiaa
open Go Vx

noncomputable def fhgtB30 (p : Nat) (q : Nat) : Bool := runM 4 [] [.and 0 31 p, .and 1 31 q] 3 [.int .i64 (.var 0), .int .i64 (.var 1)]
set_option maxRecDepth 100000 in
theorem fhgt_0_30 : fhgtB30 0 30 = true := by decide +kernel
set_option maxRecDepth 100000 in
theorem fhgt_1_30 : fhgtB30 1 30 = true := by decide +kernel
set_option maxRecDepth 100000 in
theorem fhgt_2_30 : fhgtB30 2 30 = true := by decide +kernel
set_option maxRecDepth 100000 in
theorem fhgt_3_30 : fhgtB30 3 30 = true := by decide +kernel
set_option maxRecDepth 100000 in
theorem fhgt_4_30 : fhgtB30 4 30 = true := by decide +kernel
set_option maxRecDepth 100000 in
theorem fhgt_5_30 : fhgtB30 5 30 = true := by decide +kernel
set_option maxRecDepth 100000 in
theorem fhgt_6_30 : fhgtB30 6 30 = true := by decide +kernel
set_option maxRecDepth 100000 in
theorem fhgt_7_30 : fhgtB30 7 30 = true := by decide +kernel
set_option maxRecDepth 100000 in
theorem fhgt_8_30 : fhgtB30 8 30 = true := by decide +kernel
set_option maxRecDepth 100000 in
theorem fhgt_9_30 : fhgtB30 9 30 = true := by decide +kernel
set_option maxRecDepth 100000 in
theorem fhgt_10_30 : fhgtB30 10 30 = true := by decide +kernel
set_option maxRecDepth 100000 in
theorem fhgt_11_30 : fhgtB30 11 30 = true := by decide +kernel
set_option maxRecDepth 100000 in
theorem fhgt_12_30 : fhgtB30 12 30 = true := by decide +kernel
set_option maxRecDepth 100000 in
theorem fhgt_13_30 : fhgtB30 13 30 = true := by decide +kernel
set_option maxRecDepth 100000 in
theorem fhgt_14_30 : fhgtB30 14 30 = true := by decide +kernel
set_option maxRecDepth 100000 in
theorem fhgt_15_30 : fhgtB30 15 30 = true := by decide +kernel
set_option maxRecDepth 100000 in
theorem fhgt_16_30 : fhgtB30 16 30 = true := by decide +kernel
set_option maxRecDepth 100000 in
theorem fhgt_17_30 : fhgtB30 17 30 = true := by decide +kernel
set_option maxRecDepth 100000 in
theorem fhgt_18_30 : fhgtB30 18 30 = true := by decide +kernel
set_option maxRecDepth 100000 in
theorem fhgt_19_30 : fhgtB30 19 30 = true := by decide +kernel
set_option maxRecDepth 100000 in
theorem fhgt_20_30 : fhgtB30 20 30 = true := by decide +kernel
set_option maxRecDepth 100000 in
theorem fhgt_21_30 : fhgtB30 21 30 = true := by decide +kernel
set_option maxRecDepth 100000 in
theorem fhgt_22_30 : fhgtB30 22 30 = true := by decide +kernel
set_option maxRecDepth 100000 in
theorem fhgt_23_30 : fhgtB30 23 30 = true := by decide +kernel
set_option maxRecDepth 100000 in
theorem fhgt_24_30 : fhgtB30 24 30 = true := by decide +kernel
set_option maxRecDepth 100000 in
theorem fhgt_25_30 : fhgtB30 25 30 = true := by decide +kernel
set_option maxRecDepth 100000 in
theorem fhgt_26_30 : fhgtB30 26 30 = true := by decide +kernel
set_option maxRecDepth 100000 in
theorem fhgt_27_30 : fhgtB30 27 30 = true := by decide +kernel
set_option maxRecDepth 100000 in
theorem fhgt_28_30 : fhgtB30 28 30 = true := by decide +kernel
set_option maxRecDepth 100000 in
theorem fhgt_29_30 : fhgtB30 29 30 = true := by decide +kernel
set_option maxRecDepth 100000 in
theorem fhgt_30_30 : fhgtB30 30 30 = true := by decide +kernel
set_option maxRecDepth 100000 in
theorem fhgt_31_30 : fhgtB30 31 30 = true := by decide +kernel
end Go.Proofs.Ytmloopjfjnjgiaa
