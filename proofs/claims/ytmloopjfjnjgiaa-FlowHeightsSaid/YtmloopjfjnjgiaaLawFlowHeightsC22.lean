/-
  FlowHeights: cases, run (22).
-/
import Derived.Test.YtmloopjfjnjgiaaFlowRun
namespace Go.Proofs.Ytmloopjfjnjgiaa
open Go Vx

noncomputable def fhgtB22 (p : Nat) (q : Nat) : Bool := runM 4 [] [.and 0 31 p, .and 1 31 q] 3 [.int .i64 (.var 0), .int .i64 (.var 1)]
set_option maxRecDepth 100000 in
theorem fhgt_0_22 : fhgtB22 0 22 = true := by decide +kernel
set_option maxRecDepth 100000 in
theorem fhgt_1_22 : fhgtB22 1 22 = true := by decide +kernel
set_option maxRecDepth 100000 in
theorem fhgt_2_22 : fhgtB22 2 22 = true := by decide +kernel
set_option maxRecDepth 100000 in
theorem fhgt_3_22 : fhgtB22 3 22 = true := by decide +kernel
set_option maxRecDepth 100000 in
theorem fhgt_4_22 : fhgtB22 4 22 = true := by decide +kernel
set_option maxRecDepth 100000 in
theorem fhgt_5_22 : fhgtB22 5 22 = true := by decide +kernel
set_option maxRecDepth 100000 in
theorem fhgt_6_22 : fhgtB22 6 22 = true := by decide +kernel
set_option maxRecDepth 100000 in
theorem fhgt_7_22 : fhgtB22 7 22 = true := by decide +kernel
set_option maxRecDepth 100000 in
theorem fhgt_8_22 : fhgtB22 8 22 = true := by decide +kernel
set_option maxRecDepth 100000 in
theorem fhgt_9_22 : fhgtB22 9 22 = true := by decide +kernel
set_option maxRecDepth 100000 in
theorem fhgt_10_22 : fhgtB22 10 22 = true := by decide +kernel
set_option maxRecDepth 100000 in
theorem fhgt_11_22 : fhgtB22 11 22 = true := by decide +kernel
set_option maxRecDepth 100000 in
theorem fhgt_12_22 : fhgtB22 12 22 = true := by decide +kernel
set_option maxRecDepth 100000 in
theorem fhgt_13_22 : fhgtB22 13 22 = true := by decide +kernel
set_option maxRecDepth 100000 in
theorem fhgt_14_22 : fhgtB22 14 22 = true := by decide +kernel
set_option maxRecDepth 100000 in
theorem fhgt_15_22 : fhgtB22 15 22 = true := by decide +kernel
set_option maxRecDepth 100000 in
theorem fhgt_16_22 : fhgtB22 16 22 = true := by decide +kernel
set_option maxRecDepth 100000 in
theorem fhgt_17_22 : fhgtB22 17 22 = true := by decide +kernel
set_option maxRecDepth 100000 in
theorem fhgt_18_22 : fhgtB22 18 22 = true := by decide +kernel
set_option maxRecDepth 100000 in
theorem fhgt_19_22 : fhgtB22 19 22 = true := by decide +kernel
set_option maxRecDepth 100000 in
theorem fhgt_20_22 : fhgtB22 20 22 = true := by decide +kernel
set_option maxRecDepth 100000 in
theorem fhgt_21_22 : fhgtB22 21 22 = true := by decide +kernel
set_option maxRecDepth 100000 in
theorem fhgt_22_22 : fhgtB22 22 22 = true := by decide +kernel
set_option maxRecDepth 100000 in
theorem fhgt_23_22 : fhgtB22 23 22 = true := by decide +kernel
set_option maxRecDepth 100000 in
theorem fhgt_24_22 : fhgtB22 24 22 = true := by decide +kernel
set_option maxRecDepth 100000 in
theorem fhgt_25_22 : fhgtB22 25 22 = true := by decide +kernel
set_option maxRecDepth 100000 in
theorem fhgt_26_22 : fhgtB22 26 22 = true := by decide +kernel
set_option maxRecDepth 100000 in
theorem fhgt_27_22 : fhgtB22 27 22 = true := by decide +kernel
set_option maxRecDepth 100000 in
theorem fhgt_28_22 : fhgtB22 28 22 = true := by decide +kernel
set_option maxRecDepth 100000 in
theorem fhgt_29_22 : fhgtB22 29 22 = true := by decide +kernel
set_option maxRecDepth 100000 in
theorem fhgt_30_22 : fhgtB22 30 22 = true := by decide +kernel
set_option maxRecDepth 100000 in
theorem fhgt_31_22 : fhgtB22 31 22 = true := by decide +kernel
end Go.Proofs.Ytmloopjfjnjgiaa
