/-
  FlowHeights: cases, run (24).
-/
import Derived.Test.YtmloopjfjnjgiaaFlowRun
namespace Go.Proofs.Ytmloopjfjnjgiaa
open Go Vx

noncomputable def fhgtB24 (p : Nat) (q : Nat) : Bool := runM 4 [] [.and 0 31 p, .and 1 31 q] 3 [.int .i64 (.var 0), .int .i64 (.var 1)]
set_option maxRecDepth 100000 in
theorem fhgt_0_24 : fhgtB24 0 24 = true := by decide +kernel
set_option maxRecDepth 100000 in
theorem fhgt_1_24 : fhgtB24 1 24 = true := by decide +kernel
set_option maxRecDepth 100000 in
theorem fhgt_2_24 : fhgtB24 2 24 = true := by decide +kernel
set_option maxRecDepth 100000 in
theorem fhgt_3_24 : fhgtB24 3 24 = true := by decide +kernel
set_option maxRecDepth 100000 in
theorem fhgt_4_24 : fhgtB24 4 24 = true := by decide +kernel
set_option maxRecDepth 100000 in
theorem fhgt_5_24 : fhgtB24 5 24 = true := by decide +kernel
set_option maxRecDepth 100000 in
theorem fhgt_6_24 : fhgtB24 6 24 = true := by decide +kernel
set_option maxRecDepth 100000 in
theorem fhgt_7_24 : fhgtB24 7 24 = true := by decide +kernel
set_option maxRecDepth 100000 in
theorem fhgt_8_24 : fhgtB24 8 24 = true := by decide +kernel
set_option maxRecDepth 100000 in
theorem fhgt_9_24 : fhgtB24 9 24 = true := by decide +kernel
set_option maxRecDepth 100000 in
theorem fhgt_10_24 : fhgtB24 10 24 = true := by decide +kernel
set_option maxRecDepth 100000 in
theorem fhgt_11_24 : fhgtB24 11 24 = true := by decide +kernel
set_option maxRecDepth 100000 in
theorem fhgt_12_24 : fhgtB24 12 24 = true := by decide +kernel
set_option maxRecDepth 100000 in
theorem fhgt_13_24 : fhgtB24 13 24 = true := by decide +kernel
set_option maxRecDepth 100000 in
theorem fhgt_14_24 : fhgtB24 14 24 = true := by decide +kernel
set_option maxRecDepth 100000 in
theorem fhgt_15_24 : fhgtB24 15 24 = true := by decide +kernel
set_option maxRecDepth 100000 in
theorem fhgt_16_24 : fhgtB24 16 24 = true := by decide +kernel
set_option maxRecDepth 100000 in
theorem fhgt_17_24 : fhgtB24 17 24 = true := by decide +kernel
set_option maxRecDepth 100000 in
theorem fhgt_18_24 : fhgtB24 18 24 = true := by decide +kernel
set_option maxRecDepth 100000 in
theorem fhgt_19_24 : fhgtB24 19 24 = true := by decide +kernel
set_option maxRecDepth 100000 in
theorem fhgt_20_24 : fhgtB24 20 24 = true := by decide +kernel
set_option maxRecDepth 100000 in
theorem fhgt_21_24 : fhgtB24 21 24 = true := by decide +kernel
set_option maxRecDepth 100000 in
theorem fhgt_22_24 : fhgtB24 22 24 = true := by decide +kernel
set_option maxRecDepth 100000 in
theorem fhgt_23_24 : fhgtB24 23 24 = true := by decide +kernel
set_option maxRecDepth 100000 in
theorem fhgt_24_24 : fhgtB24 24 24 = true := by decide +kernel
set_option maxRecDepth 100000 in
theorem fhgt_25_24 : fhgtB24 25 24 = true := by decide +kernel
set_option maxRecDepth 100000 in
theorem fhgt_26_24 : fhgtB24 26 24 = true := by decide +kernel
set_option maxRecDepth 100000 in
theorem fhgt_27_24 : fhgtB24 27 24 = true := by decide +kernel
set_option maxRecDepth 100000 in
theorem fhgt_28_24 : fhgtB24 28 24 = true := by decide +kernel
set_option maxRecDepth 100000 in
theorem fhgt_29_24 : fhgtB24 29 24 = true := by decide +kernel
set_option maxRecDepth 100000 in
theorem fhgt_30_24 : fhgtB24 30 24 = true := by decide +kernel
set_option maxRecDepth 100000 in
theorem fhgt_31_24 : fhgtB24 31 24 = true := by decide +kernel
end Go.Proofs.Ytmloopjfjnjgiaa
