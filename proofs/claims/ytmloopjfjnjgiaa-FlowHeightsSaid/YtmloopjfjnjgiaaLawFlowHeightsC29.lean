/-
  FlowHeights: cases, run (29).
-/
import Derived.Test.YtmloopjfjnjgiaaFlowRun
namespace Go.Proofs.Ytmloopjfjnjgiaa
open Go Vx

noncomputable def fhgtB29 (p : Nat) (q : Nat) : Bool := runM 4 [] [.and 0 31 p, .and 1 31 q] 3 [.int .i64 (.var 0), .int .i64 (.var 1)]
set_option maxRecDepth 100000 in
theorem fhgt_0_29 : fhgtB29 0 29 = true := by decide +kernel
set_option maxRecDepth 100000 in
theorem fhgt_1_29 : fhgtB29 1 29 = true := by decide +kernel
set_option maxRecDepth 100000 in
theorem fhgt_2_29 : fhgtB29 2 29 = true := by decide +kernel
set_option maxRecDepth 100000 in
theorem fhgt_3_29 : fhgtB29 3 29 = true := by decide +kernel
set_option maxRecDepth 100000 in
theorem fhgt_4_29 : fhgtB29 4 29 = true := by decide +kernel
set_option maxRecDepth 100000 in
theorem fhgt_5_29 : fhgtB29 5 29 = true := by decide +kernel
set_option maxRecDepth 100000 in
theorem fhgt_6_29 : fhgtB29 6 29 = true := by decide +kernel
set_option maxRecDepth 100000 in
theorem fhgt_7_29 : fhgtB29 7 29 = true := by decide +kernel
set_option maxRecDepth 100000 in
theorem fhgt_8_29 : fhgtB29 8 29 = true := by decide +kernel
set_option maxRecDepth 100000 in
theorem fhgt_9_29 : fhgtB29 9 29 = true := by decide +kernel
set_option maxRecDepth 100000 in
theorem fhgt_10_29 : fhgtB29 10 29 = true := by decide +kernel
set_option maxRecDepth 100000 in
theorem fhgt_11_29 : fhgtB29 11 29 = true := by decide +kernel
set_option maxRecDepth 100000 in
theorem fhgt_12_29 : fhgtB29 12 29 = true := by decide +kernel
set_option maxRecDepth 100000 in
theorem fhgt_13_29 : fhgtB29 13 29 = true := by decide +kernel
set_option maxRecDepth 100000 in
theorem fhgt_14_29 : fhgtB29 14 29 = true := by decide +kernel
set_option maxRecDepth 100000 in
theorem fhgt_15_29 : fhgtB29 15 29 = true := by decide +kernel
set_option maxRecDepth 100000 in
theorem fhgt_16_29 : fhgtB29 16 29 = true := by decide +kernel
set_option maxRecDepth 100000 in
theorem fhgt_17_29 : fhgtB29 17 29 = true := by decide +kernel
set_option maxRecDepth 100000 in
theorem fhgt_18_29 : fhgtB29 18 29 = true := by decide +kernel
set_option maxRecDepth 100000 in
theorem fhgt_19_29 : fhgtB29 19 29 = true := by decide +kernel
set_option maxRecDepth 100000 in
theorem fhgt_20_29 : fhgtB29 20 29 = true := by decide +kernel
set_option maxRecDepth 100000 in
theorem fhgt_21_29 : fhgtB29 21 29 = true := by decide +kernel
set_option maxRecDepth 100000 in
theorem fhgt_22_29 : fhgtB29 22 29 = true := by decide +kernel
set_option maxRecDepth 100000 in
theorem fhgt_23_29 : fhgtB29 23 29 = true := by decide +kernel
set_option maxRecDepth 100000 in
theorem fhgt_24_29 : fhgtB29 24 29 = true := by decide +kernel
set_option maxRecDepth 100000 in
theorem fhgt_25_29 : fhgtB29 25 29 = true := by decide +kernel
set_option maxRecDepth 100000 in
theorem fhgt_26_29 : fhgtB29 26 29 = true := by decide +kernel
set_option maxRecDepth 100000 in
theorem fhgt_27_29 : fhgtB29 27 29 = true := by decide +kernel
set_option maxRecDepth 100000 in
theorem fhgt_28_29 : fhgtB29 28 29 = true := by decide +kernel
set_option maxRecDepth 100000 in
theorem fhgt_29_29 : fhgtB29 29 29 = true := by decide +kernel
set_option maxRecDepth 100000 in
theorem fhgt_30_29 : fhgtB29 30 29 = true := by decide +kernel
set_option maxRecDepth 100000 in
theorem fhgt_31_29 : fhgtB29 31 29 = true := by decide +kernel
end Go.Proofs.Ytmloopjfjnjgiaa
