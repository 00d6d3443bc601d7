/-
  InstTables: cases, run (10).
-/
import Derived.Test.YtbehooekcpfgcaaGreatDoorInstBase
namespace Go.Proofs.YtbehooekcpfgcaaGreatDoor
open Go Vx

noncomputable def itabK10 (s x y : Nat) : Bool := runM 4 [] [.and 0 15 s, .and 1 15 x, .and 2 15 y] 3 [.int .i64 (.var 0), .int .i64 (.var 1), .int .i64 (.var 2)]
noncomputable def itabA10 (s a b c d : Nat) : Bool := runM 4 [⟨1, 15, a, b⟩, ⟨2, 15, c, d⟩] [.and 0 15 s] 3 [.int .i64 (.var 0), .int .i64 (.var 1), .int .i64 (.var 2)]
set_option maxRecDepth 100000 in
theorem itab_A_2_0_0_2_15 : itabA10 2 0 0 2 15 = true := by decide +kernel
set_option maxRecDepth 100000 in
theorem itab_A_6_1_4_6_15 : itabA10 6 1 4 6 15 = true := by decide +kernel
set_option maxRecDepth 100000 in
theorem itab_A_10_1_8_10_15 : itabA10 10 1 8 10 15 = true := by decide +kernel
set_option maxRecDepth 100000 in
theorem itab_A_14_1_12_14_15 : itabA10 14 1 12 14 15 = true := by decide +kernel
set_option maxRecDepth 100000 in
theorem itab_K_4_0_3 : itabK10 4 0 3 = true := by decide +kernel
set_option maxRecDepth 100000 in
theorem itab_K_5_1_2 : itabK10 5 1 2 = true := by decide +kernel
set_option maxRecDepth 100000 in
theorem itab_K_6_0_3 : itabK10 6 0 3 = true := by decide +kernel
set_option maxRecDepth 100000 in
theorem itab_K_6_3_1 : itabK10 6 3 1 = true := by decide +kernel
set_option maxRecDepth 100000 in
theorem itab_K_7_0_5 : itabK10 7 0 5 = true := by decide +kernel
set_option maxRecDepth 100000 in
theorem itab_K_7_3_0 : itabK10 7 3 0 = true := by decide +kernel
set_option maxRecDepth 100000 in
theorem itab_K_7_5_2 : itabK10 7 5 2 = true := by decide +kernel
set_option maxRecDepth 100000 in
theorem itab_K_8_1_3 : itabK10 8 1 3 = true := by decide +kernel
set_option maxRecDepth 100000 in
theorem itab_K_8_3_3 : itabK10 8 3 3 = true := by decide +kernel
set_option maxRecDepth 100000 in
theorem itab_K_8_5_3 : itabK10 8 5 3 = true := by decide +kernel
set_option maxRecDepth 100000 in
theorem itab_K_9_0_3 : itabK10 9 0 3 = true := by decide +kernel
set_option maxRecDepth 100000 in
theorem itab_K_9_2_1 : itabK10 9 2 1 = true := by decide +kernel
set_option maxRecDepth 100000 in
theorem itab_K_9_3_8 : itabK10 9 3 8 = true := by decide +kernel
set_option maxRecDepth 100000 in
theorem itab_K_9_5_6 : itabK10 9 5 6 = true := by decide +kernel
set_option maxRecDepth 100000 in
theorem itab_K_9_7_4 : itabK10 9 7 4 = true := by decide +kernel
set_option maxRecDepth 100000 in
theorem itab_K_10_1_1 : itabK10 10 1 1 = true := by decide +kernel
set_option maxRecDepth 100000 in
theorem itab_K_10_2_7 : itabK10 10 2 7 = true := by decide +kernel
set_option maxRecDepth 100000 in
theorem itab_K_10_4_3 : itabK10 10 4 3 = true := by decide +kernel
set_option maxRecDepth 100000 in
theorem itab_K_10_5_9 : itabK10 10 5 9 = true := by decide +kernel
set_option maxRecDepth 100000 in
theorem itab_K_10_7_5 : itabK10 10 7 5 = true := by decide +kernel
set_option maxRecDepth 100000 in
theorem itab_K_11_0_1 : itabK10 11 0 1 = true := by decide +kernel
set_option maxRecDepth 100000 in
theorem itab_K_11_1_6 : itabK10 11 1 6 = true := by decide +kernel
set_option maxRecDepth 100000 in
theorem itab_K_11_3_0 : itabK10 11 3 0 = true := by decide +kernel
set_option maxRecDepth 100000 in
theorem itab_K_11_4_5 : itabK10 11 4 5 = true := by decide +kernel
set_option maxRecDepth 100000 in
theorem itab_K_11_5_10 : itabK10 11 5 10 = true := by decide +kernel
set_option maxRecDepth 100000 in
theorem itab_K_11_7_4 : itabK10 11 7 4 = true := by decide +kernel
set_option maxRecDepth 100000 in
theorem itab_K_11_8_9 : itabK10 11 8 9 = true := by decide +kernel
set_option maxRecDepth 100000 in
theorem itab_K_12_0_3 : itabK10 12 0 3 = true := by decide +kernel
set_option maxRecDepth 100000 in
theorem itab_K_12_1_7 : itabK10 12 1 7 = true := by decide +kernel
set_option maxRecDepth 100000 in
theorem itab_K_12_2_11 : itabK10 12 2 11 = true := by decide +kernel
set_option maxRecDepth 100000 in
theorem itab_K_12_4_3 : itabK10 12 4 3 = true := by decide +kernel
set_option maxRecDepth 100000 in
theorem itab_K_12_5_7 : itabK10 12 5 7 = true := by decide +kernel
set_option maxRecDepth 100000 in
theorem itab_K_12_6_11 : itabK10 12 6 11 = true := by decide +kernel
set_option maxRecDepth 100000 in
theorem itab_K_12_8_3 : itabK10 12 8 3 = true := by decide +kernel
set_option maxRecDepth 100000 in
theorem itab_K_12_9_7 : itabK10 12 9 7 = true := by decide +kernel
set_option maxRecDepth 100000 in
theorem itab_K_12_10_11 : itabK10 12 10 11 = true := by decide +kernel
set_option maxRecDepth 100000 in
theorem itab_K_13_1_2 : itabK10 13 1 2 = true := by decide +kernel
set_option maxRecDepth 100000 in
theorem itab_K_13_2_5 : itabK10 13 2 5 = true := by decide +kernel
set_option maxRecDepth 100000 in
theorem itab_K_13_3_8 : itabK10 13 3 8 = true := by decide +kernel
set_option maxRecDepth 100000 in
theorem itab_K_13_4_11 : itabK10 13 4 11 = true := by decide +kernel
set_option maxRecDepth 100000 in
theorem itab_K_13_6_1 : itabK10 13 6 1 = true := by decide +kernel
set_option maxRecDepth 100000 in
theorem itab_K_13_7_4 : itabK10 13 7 4 = true := by decide +kernel
set_option maxRecDepth 100000 in
theorem itab_K_13_8_7 : itabK10 13 8 7 = true := by decide +kernel
set_option maxRecDepth 100000 in
theorem itab_K_13_9_10 : itabK10 13 9 10 = true := by decide +kernel
set_option maxRecDepth 100000 in
theorem itab_K_13_11_0 : itabK10 13 11 0 = true := by decide +kernel
set_option maxRecDepth 100000 in
theorem itab_K_14_0_3 : itabK10 14 0 3 = true := by decide +kernel
set_option maxRecDepth 100000 in
theorem itab_K_14_1_5 : itabK10 14 1 5 = true := by decide +kernel
set_option maxRecDepth 100000 in
theorem itab_K_14_2_7 : itabK10 14 2 7 = true := by decide +kernel
set_option maxRecDepth 100000 in
theorem itab_K_14_3_9 : itabK10 14 3 9 = true := by decide +kernel
set_option maxRecDepth 100000 in
theorem itab_K_14_4_11 : itabK10 14 4 11 = true := by decide +kernel
set_option maxRecDepth 100000 in
theorem itab_K_14_5_13 : itabK10 14 5 13 = true := by decide +kernel
set_option maxRecDepth 100000 in
theorem itab_K_14_7_1 : itabK10 14 7 1 = true := by decide +kernel
set_option maxRecDepth 100000 in
theorem itab_K_14_8_3 : itabK10 14 8 3 = true := by decide +kernel
set_option maxRecDepth 100000 in
theorem itab_K_14_9_5 : itabK10 14 9 5 = true := by decide +kernel
set_option maxRecDepth 100000 in
theorem itab_K_14_10_7 : itabK10 14 10 7 = true := by decide +kernel
set_option maxRecDepth 100000 in
theorem itab_K_14_11_9 : itabK10 14 11 9 = true := by decide +kernel
set_option maxRecDepth 100000 in
theorem itab_K_14_12_11 : itabK10 14 12 11 = true := by decide +kernel
set_option maxRecDepth 100000 in
theorem itab_K_15_0_13 : itabK10 15 0 13 = true := by decide +kernel
set_option maxRecDepth 100000 in
theorem itab_K_15_1_14 : itabK10 15 1 14 = true := by decide +kernel
set_option maxRecDepth 100000 in
theorem itab_K_15_3_0 : itabK10 15 3 0 = true := by decide +kernel
set_option maxRecDepth 100000 in
theorem itab_K_15_4_1 : itabK10 15 4 1 = true := by decide +kernel
set_option maxRecDepth 100000 in
theorem itab_K_15_5_2 : itabK10 15 5 2 = true := by decide +kernel
set_option maxRecDepth 100000 in
theorem itab_K_15_6_3 : itabK10 15 6 3 = true := by decide +kernel
set_option maxRecDepth 100000 in
theorem itab_K_15_7_4 : itabK10 15 7 4 = true := by decide +kernel
set_option maxRecDepth 100000 in
theorem itab_K_15_8_5 : itabK10 15 8 5 = true := by decide +kernel
set_option maxRecDepth 100000 in
theorem itab_K_15_9_6 : itabK10 15 9 6 = true := by decide +kernel
set_option maxRecDepth 100000 in
theorem itab_K_15_10_7 : itabK10 15 10 7 = true := by decide +kernel
set_option maxRecDepth 100000 in
theorem itab_K_15_11_8 : itabK10 15 11 8 = true := by decide +kernel
set_option maxRecDepth 100000 in
theorem itab_K_15_12_9 : itabK10 15 12 9 = true := by decide +kernel
set_option maxRecDepth 100000 in
theorem itab_K_15_13_10 : itabK10 15 13 10 = true := by decide +kernel
end Go.Proofs.YtbehooekcpfgcaaGreatDoor
