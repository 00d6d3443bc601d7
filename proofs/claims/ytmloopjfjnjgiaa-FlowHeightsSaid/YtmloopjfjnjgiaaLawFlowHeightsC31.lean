/-
  FlowHeights: cases, run (31).
-/
import Derived.Test.YtmloopjfjnjgiaaFlowRun
namespace Go.Proofs.Ytmloopjfjnjgiaa
open Go Vx

noncomputable def fhgtB31 (p : Nat) (q : Nat) : Bool := runM 4 [] [.and 0 31 p, .and 1 31 q] 3 [.int .i64 (.var 0), .int .i64 (.var 1)]
set_option maxRecDepth 100000 in
theorem fhgt_0_31 : fhgtB31 0 31 = true := by decide +kernel
set_option maxRecDepth 100000 in
theorem fhgt_1_31 : fhgtB31 1 31 = true := by decide +kernel
set_option maxRecDepth 100000 in
theorem fhgt_2_31 : fhgtB31 2 31 = true := by decide +kernel
set_option maxRecDepth 100000 in
theorem fhgt_3_31 : fhgtB31 3 31 = true := by decide +kernel
set_option maxRecDepth 100000 in
theorem fhgt_4_31 : fhgtB31 4 31 = true := by decide +kernel
set_option maxRecDepth 100000 in
theorem fhgt_5_31 : fhgtB31 5 31 = true := by decide +kernel
set_option maxRecDepth 100000 in
theorem fhgt_6_31 : fhgtB31 6 31 = true := by decide +kernel
set_option maxRecDepth 100000 in
theorem fhgt_7_31 : fhgtB31 7 31 = true := by decide +kernel
set_option maxRecDepth 100000 in
theorem fhgt_8_31 : fhgtB31 8 31 = true := by decide +kernel
set_option maxRecDepth 100000 in
theorem fhgt_9_31 : fhgtB31 9 31 = true := by decide +kernel
set_option maxRecDepth 100000 in
theorem fhgt_10_31 : fhgtB31 10 31 = true := by decide +kernel
set_option maxRecDepth 100000 in
theorem fhgt_11_31 : fhgtB31 11 31 = true := by decide +kernel
set_option maxRecDepth 100000 in
theorem fhgt_12_31 : fhgtB31 12 31 = true := by decide +kernel
set_option maxRecDepth 100000 in
theorem fhgt_13_31 : fhgtB31 13 31 = true := by decide +kernel
set_option maxRecDepth 100000 in
theorem fhgt_14_31 : fhgtB31 14 31 = true := by decide +kernel
set_option maxRecDepth 100000 in
theorem fhgt_15_31 : fhgtB31 15 31 = true := by decide +kernel
set_option maxRecDepth 100000 in
theorem fhgt_16_31 : fhgtB31 16 31 = true := by decide +kernel
set_option maxRecDepth 100000 in
theorem fhgt_17_31 : fhgtB31 17 31 = true := by decide +kernel
set_option maxRecDepth 100000 in
theorem fhgt_18_31 : fhgtB31 18 31 = true := by decide +kernel
set_option maxRecDepth 100000 in
theorem fhgt_19_31 : fhgtB31 19 31 = true := by decide +kernel
set_option maxRecDepth 100000 in
theorem fhgt_20_31 : fhgtB31 20 31 = true := by decide +kernel
set_option maxRecDepth 100000 in
theorem fhgt_21_31 : fhgtB31 21 31 = true := by decide +kernel
set_option maxRecDepth 100000 in
theorem fhgt_22_31 : fhgtB31 22 31 = true := by decide +kernel
set_option maxRecDepth 100000 in
theorem fhgt_23_31 : fhgtB31 23 31 = true := by decide +kernel
set_option maxRecDepth 100000 in
theorem fhgt_24_31 : fhgtB31 24 31 = true := by decide +kernel
set_option maxRecDepth 100000 in
theorem fhgt_25_31 : fhgtB31 25 31 = true := by decide +kernel
set_option maxRecDepth 100000 in
theorem fhgt_26_31 : fhgtB31 26 31 = true := by decide +kernel
set_option maxRecDepth 100000 in
theorem fhgt_27_31 : fhgtB31 27 31 = true := by decide +kernel
set_option maxRecDepth 100000 in
theorem fhgt_28_31 : fhgtB31 28 31 = true := by decide +kernel
set_option maxRecDepth 100000 in
theorem fhgt_29_31 : fhgtB31 29 31 = true := by decide +kernel
set_option maxRecDepth 100000 in
theorem fhgt_30_31 : fhgtB31 30 31 = true := by decide +kernel
set_option maxRecDepth 100000 in
theorem fhgt_31_31 : fhgtB31 31 31 = true := by decide +kernel
end Go.Proofs.Ytmloopjfjnjgiaa
