/-
  FlowHeights: cases, run (21).
-/
import Derived.Test.YtmloopjfjnjgiaaFlowRun
namespace Go.Proofs.Ytmloopjfjnjgiaa
open Go Vx

noncomputable def fhgtB21 (p : Nat) (q : Nat) : Bool := runM 4 [] [.and 0 31 p, .and 1 31 q] 3 [.int .i64 (.var 0), .int .i64 (.var 1)]
set_option maxRecDepth 100000 in
theorem fhgt_0_21 : fhgtB21 0 21 = true := by decide +kernel
set_option maxRecDepth 100000 in
theorem fhgt_1_21 : fhgtB21 1 21 = true := by decide +kernel
set_option maxRecDepth 100000 in
theorem fhgt_2_21 : fhgtB21 2 21 = true := by decide +kernel
set_option maxRecDepth 100000 in
theorem fhgt_3_21 : fhgtB21 3 21 = true := by decide +kernel
set_option maxRecDepth 100000 in
theorem fhgt_4_21 : fhgtB21 4 21 = true := by decide +kernel
set_option maxRecDepth 100000 in
theorem fhgt_5_21 : fhgtB21 5 21 = true := by decide +kernel
set_option maxRecDepth 100000 in
theorem fhgt_6_21 : fhgtB21 6 21 = true := by decide +kernel
set_option maxRecDepth 100000 in
theorem fhgt_7_21 : fhgtB21 7 21 = true := by decide +kernel
set_option maxRecDepth 100000 in
theorem fhgt_8_21 : fhgtB21 8 21 = true := by decide +kernel
set_option maxRecDepth 100000 in
theorem fhgt_9_21 : fhgtB21 9 21 = true := by decide +kernel
set_option maxRecDepth 100000 in
theorem fhgt_10_21 : fhgtB21 10 21 = true := by decide +kernel
set_option maxRecDepth 100000 in
theorem fhgt_11_21 : fhgtB21 11 21 = true := by decide +kernel
set_option maxRecDepth 100000 in
theorem fhgt_12_21 : fhgtB21 12 21 = true := by decide +kernel
set_option maxRecDepth 100000 in
theorem fhgt_13_21 : fhgtB21 13 21 = true := by decide +kernel
set_option maxRecDepth 100000 in
theorem fhgt_14_21 : fhgtB21 14 21 = true := by decide +kernel
set_option maxRecDepth 100000 in
theorem fhgt_15_21 : fhgtB21 15 21 = true := by decide +kernel
set_option maxRecDepth 100000 in
theorem fhgt_16_21 : fhgtB21 16 21 = true := by decide +kernel
set_option maxRecDepth 100000 in
theorem fhgt_17_21 : fhgtB21 17 21 = true := by decide +kernel
set_option maxRecDepth 100000 in
theorem fhgt_18_21 : fhgtB21 18 21 = true := by decide +kernel
set_option maxRecDepth 100000 in
theorem fhgt_19_21 : fhgtB21 19 21 = true := by decide +kernel
set_option maxRecDepth 100000 in
theorem fhgt_20_21 : fhgtB21 20 21 = true := by decide +kernel
set_option maxRecDepth 100000 in
theorem fhgt_21_21 : fhgtB21 21 21 = true := by decide +kernel
set_option maxRecDepth 100000 in
theorem fhgt_22_21 : fhgtB21 22 21 = true := by decide +kernel
set_option maxRecDepth 100000 in
theorem fhgt_23_21 : fhgtB21 23 21 = true := by decide +kernel
set_option maxRecDepth 100000 in
theorem fhgt_24_21 : fhgtB21 24 21 = true := by decide +kernel
set_option maxRecDepth 100000 in
theorem fhgt_25_21 : fhgtB21 25 21 = true := by decide +kernel
set_option maxRecDepth 100000 in
theorem fhgt_26_21 : fhgtB21 26 21 = true := by decide +kernel
set_option maxRecDepth 100000 in
theorem fhgt_27_21 : fhgtB21 27 21 = true := by decide +kernel
set_option maxRecDepth 100000 in
theorem fhgt_28_21 : fhgtB21 28 21 = true := by decide +kernel
set_option maxRecDepth 100000 in
theorem fhgt_29_21 : fhgtB21 29 21 = true := by decide +kernel
set_option maxRecDepth 100000 in
theorem fhgt_30_21 : fhgtB21 30 21 = true := by decide +kernel
set_option maxRecDepth 100000 in
theorem fhgt_31_21 : fhgtB21 31 21 = true := by decide +kernel
end Go.Proofs.Ytmloopjfjnjgiaa
