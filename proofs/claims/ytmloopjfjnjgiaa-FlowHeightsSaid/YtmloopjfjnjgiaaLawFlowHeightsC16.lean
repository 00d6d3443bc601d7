/-
  FlowHeights: cases, run (16).
-/
import Derived.Test.YtmloopjfjnjgiaaFlowRun
namespace Go.Proofs.Ytmloopjfjnjgiaa
open Go Vx

noncomputable def fhgtB16 (p : Nat) (q : Nat) : Bool := runM 4 [] [.and 0 31 p, .and 1 31 q] 3 [.int .i64 (.var 0), .int .i64 (.var 1)]
set_option maxRecDepth 100000 in
theorem fhgt_0_16 : fhgtB16 0 16 = true := by decide +kernel
set_option maxRecDepth 100000 in
theorem fhgt_1_16 : fhgtB16 1 16 = true := by decide +kernel
set_option maxRecDepth 100000 in
theorem fhgt_2_16 : fhgtB16 2 16 = true := by decide +kernel
set_option maxRecDepth 100000 in
theorem fhgt_3_16 : fhgtB16 3 16 = true := by decide +kernel
set_option maxRecDepth 100000 in
theorem fhgt_4_16 : fhgtB16 4 16 = true := by decide +kernel
set_option maxRecDepth 100000 in
theorem fhgt_5_16 : fhgtB16 5 16 = true := by decide +kernel
set_option maxRecDepth 100000 in
theorem fhgt_6_16 : fhgtB16 6 16 = true := by decide +kernel
set_option maxRecDepth 100000 in
theorem fhgt_7_16 : fhgtB16 7 16 = true := by decide +kernel
set_option maxRecDepth 100000 in
theorem fhgt_8_16 : fhgtB16 8 16 = true := by decide +kernel
set_option maxRecDepth 100000 in
theorem fhgt_9_16 : fhgtB16 9 16 = true := by decide +kernel
set_option maxRecDepth 100000 in
theorem fhgt_10_16 : fhgtB16 10 16 = true := by decide +kernel
set_option maxRecDepth 100000 in
theorem fhgt_11_16 : fhgtB16 11 16 = true := by decide +kernel
set_option maxRecDepth 100000 in
theorem fhgt_12_16 : fhgtB16 12 16 = true := by decide +kernel
set_option maxRecDepth 100000 in
theorem fhgt_13_16 : fhgtB16 13 16 = true := by decide +kernel
set_option maxRecDepth 100000 in
theorem fhgt_14_16 : fhgtB16 14 16 = true := by decide +kernel
set_option maxRecDepth 100000 in
theorem fhgt_15_16 : fhgtB16 15 16 = true := by decide +kernel
set_option maxRecDepth 100000 in
theorem fhgt_16_16 : fhgtB16 16 16 = true := by decide +kernel
set_option maxRecDepth 100000 in
theorem fhgt_17_16 : fhgtB16 17 16 = true := by decide +kernel
set_option maxRecDepth 100000 in
theorem fhgt_18_16 : fhgtB16 18 16 = true := by decide +kernel
set_option maxRecDepth 100000 in
theorem fhgt_19_16 : fhgtB16 19 16 = true := by decide +kernel
set_option maxRecDepth 100000 in
theorem fhgt_20_16 : fhgtB16 20 16 = true := by decide +kernel
set_option maxRecDepth 100000 in
theorem fhgt_21_16 : fhgtB16 21 16 = true := by decide +kernel
set_option maxRecDepth 100000 in
theorem fhgt_22_16 : fhgtB16 22 16 = true := by decide +kernel
set_option maxRecDepth 100000 in
theorem fhgt_23_16 : fhgtB16 23 16 = true := by decide +kernel
set_option maxRecDepth 100000 in
theorem fhgt_24_16 : fhgtB16 24 16 = true := by decide +kernel
set_option maxRecDepth 100000 in
theorem fhgt_25_16 : fhgtB16 25 16 = true := by decide +kernel
set_option maxRecDepth 100000 in
theorem fhgt_26_16 : fhgtB16 26 16 = true := by decide +kernel
set_option maxRecDepth 100000 in
theorem fhgt_27_16 : fhgtB16 27 16 = true := by decide +kernel
set_option maxRecDepth 100000 in
theorem fhgt_28_16 : fhgtB16 28 16 = true := by decide +kernel
set_option maxRecDepth 100000 in
theorem fhgt_29_16 : fhgtB16 29 16 = true := by decide +kernel
set_option maxRecDepth 100000 in
theorem fhgt_30_16 : fhgtB16 30 16 = true := by decide +kernel
set_option maxRecDepth 100000 in
theorem fhgt_31_16 : fhgtB16 31 16 = true := by decide +kernel
end Go.Proofs.Ytmloopjfjnjgiaa
