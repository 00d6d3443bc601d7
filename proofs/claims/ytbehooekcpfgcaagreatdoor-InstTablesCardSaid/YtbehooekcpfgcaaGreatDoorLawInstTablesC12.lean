/-
  InstTables: cases, run (12).
-/
import Derived.Test.YtbehooekcpfgcaaGreatDoorInstBase
namespace Go.Proofs.YtbehooekcpfgcaaGreatDoor
open Go Vx

noncomputable def itabK12 (s x y : Nat) : Bool := runM 4 [] [.and 0 15 s, .and 1 15 x, .and 2 15 y] 3 [.int .i64 (.var 0), .int .i64 (.var 1), .int .i64 (.var 2)]
noncomputable def itabA12 (s a b c d : Nat) : Bool := runM 4 [⟨1, 15, a, b⟩, ⟨2, 15, c, d⟩] [.and 0 15 s] 3 [.int .i64 (.var 0), .int .i64 (.var 1), .int .i64 (.var 2)]
set_option maxRecDepth 100000 in
theorem itab_A_3_2_15_1_15 : itabA12 3 2 15 1 15 = true := by decide +kernel
set_option maxRecDepth 100000 in
theorem itab_A_7_6_15_1_15 : itabA12 7 6 15 1 15 = true := by decide +kernel
set_option maxRecDepth 100000 in
theorem itab_A_11_10_15_1_15 : itabA12 11 10 15 1 15 = true := by decide +kernel
set_option maxRecDepth 100000 in
theorem itab_A_15_14_15_1_15 : itabA12 15 14 15 1 15 = true := by decide +kernel
set_option maxRecDepth 100000 in
theorem itab_K_4_1_1 : itabK12 4 1 1 = true := by decide +kernel
set_option maxRecDepth 100000 in
theorem itab_K_5_1_4 : itabK12 5 1 4 = true := by decide +kernel
set_option maxRecDepth 100000 in
theorem itab_K_6_0_5 : itabK12 6 0 5 = true := by decide +kernel
set_option maxRecDepth 100000 in
theorem itab_K_6_3_3 : itabK12 6 3 3 = true := by decide +kernel
set_option maxRecDepth 100000 in
theorem itab_K_7_1_0 : itabK12 7 1 0 = true := by decide +kernel
set_option maxRecDepth 100000 in
theorem itab_K_7_3_2 : itabK12 7 3 2 = true := by decide +kernel
set_option maxRecDepth 100000 in
theorem itab_K_7_5_4 : itabK12 7 5 4 = true := by decide +kernel
set_option maxRecDepth 100000 in
theorem itab_K_8_1_5 : itabK12 8 1 5 = true := by decide +kernel
set_option maxRecDepth 100000 in
theorem itab_K_8_3_5 : itabK12 8 3 5 = true := by decide +kernel
set_option maxRecDepth 100000 in
theorem itab_K_8_5_5 : itabK12 8 5 5 = true := by decide +kernel
set_option maxRecDepth 100000 in
theorem itab_K_9_0_5 : itabK12 9 0 5 = true := by decide +kernel
set_option maxRecDepth 100000 in
theorem itab_K_9_2_3 : itabK12 9 2 3 = true := by decide +kernel
set_option maxRecDepth 100000 in
theorem itab_K_9_4_1 : itabK12 9 4 1 = true := by decide +kernel
set_option maxRecDepth 100000 in
theorem itab_K_9_5_8 : itabK12 9 5 8 = true := by decide +kernel
set_option maxRecDepth 100000 in
theorem itab_K_9_7_6 : itabK12 9 7 6 = true := by decide +kernel
set_option maxRecDepth 100000 in
theorem itab_K_10_1_3 : itabK12 10 1 3 = true := by decide +kernel
set_option maxRecDepth 100000 in
theorem itab_K_10_2_9 : itabK12 10 2 9 = true := by decide +kernel
set_option maxRecDepth 100000 in
theorem itab_K_10_4_5 : itabK12 10 4 5 = true := by decide +kernel
set_option maxRecDepth 100000 in
theorem itab_K_10_6_1 : itabK12 10 6 1 = true := by decide +kernel
set_option maxRecDepth 100000 in
theorem itab_K_10_7_7 : itabK12 10 7 7 = true := by decide +kernel
set_option maxRecDepth 100000 in
theorem itab_K_11_0_3 : itabK12 11 0 3 = true := by decide +kernel
set_option maxRecDepth 100000 in
theorem itab_K_11_1_8 : itabK12 11 1 8 = true := by decide +kernel
set_option maxRecDepth 100000 in
theorem itab_K_11_3_2 : itabK12 11 3 2 = true := by decide +kernel
set_option maxRecDepth 100000 in
theorem itab_K_11_4_7 : itabK12 11 4 7 = true := by decide +kernel
set_option maxRecDepth 100000 in
theorem itab_K_11_6_1 : itabK12 11 6 1 = true := by decide +kernel
set_option maxRecDepth 100000 in
theorem itab_K_11_7_6 : itabK12 11 7 6 = true := by decide +kernel
set_option maxRecDepth 100000 in
theorem itab_K_11_9_0 : itabK12 11 9 0 = true := by decide +kernel
set_option maxRecDepth 100000 in
theorem itab_K_12_0_5 : itabK12 12 0 5 = true := by decide +kernel
set_option maxRecDepth 100000 in
theorem itab_K_12_1_9 : itabK12 12 1 9 = true := by decide +kernel
set_option maxRecDepth 100000 in
theorem itab_K_12_3_1 : itabK12 12 3 1 = true := by decide +kernel
set_option maxRecDepth 100000 in
theorem itab_K_12_4_5 : itabK12 12 4 5 = true := by decide +kernel
set_option maxRecDepth 100000 in
theorem itab_K_12_5_9 : itabK12 12 5 9 = true := by decide +kernel
set_option maxRecDepth 100000 in
theorem itab_K_12_7_1 : itabK12 12 7 1 = true := by decide +kernel
set_option maxRecDepth 100000 in
theorem itab_K_12_8_5 : itabK12 12 8 5 = true := by decide +kernel
set_option maxRecDepth 100000 in
theorem itab_K_12_9_9 : itabK12 12 9 9 = true := by decide +kernel
set_option maxRecDepth 100000 in
theorem itab_K_13_0_1 : itabK12 13 0 1 = true := by decide +kernel
set_option maxRecDepth 100000 in
theorem itab_K_13_1_4 : itabK12 13 1 4 = true := by decide +kernel
set_option maxRecDepth 100000 in
theorem itab_K_13_2_7 : itabK12 13 2 7 = true := by decide +kernel
set_option maxRecDepth 100000 in
theorem itab_K_13_3_10 : itabK12 13 3 10 = true := by decide +kernel
set_option maxRecDepth 100000 in
theorem itab_K_13_5_0 : itabK12 13 5 0 = true := by decide +kernel
set_option maxRecDepth 100000 in
theorem itab_K_13_6_3 : itabK12 13 6 3 = true := by decide +kernel
set_option maxRecDepth 100000 in
theorem itab_K_13_7_6 : itabK12 13 7 6 = true := by decide +kernel
set_option maxRecDepth 100000 in
theorem itab_K_13_8_9 : itabK12 13 8 9 = true := by decide +kernel
set_option maxRecDepth 100000 in
theorem itab_K_13_9_12 : itabK12 13 9 12 = true := by decide +kernel
set_option maxRecDepth 100000 in
theorem itab_K_13_11_2 : itabK12 13 11 2 = true := by decide +kernel
set_option maxRecDepth 100000 in
theorem itab_K_14_0_5 : itabK12 14 0 5 = true := by decide +kernel
set_option maxRecDepth 100000 in
theorem itab_K_14_1_7 : itabK12 14 1 7 = true := by decide +kernel
set_option maxRecDepth 100000 in
theorem itab_K_14_2_9 : itabK12 14 2 9 = true := by decide +kernel
set_option maxRecDepth 100000 in
theorem itab_K_14_3_11 : itabK12 14 3 11 = true := by decide +kernel
set_option maxRecDepth 100000 in
theorem itab_K_14_4_13 : itabK12 14 4 13 = true := by decide +kernel
set_option maxRecDepth 100000 in
theorem itab_K_14_6_1 : itabK12 14 6 1 = true := by decide +kernel
set_option maxRecDepth 100000 in
theorem itab_K_14_7_3 : itabK12 14 7 3 = true := by decide +kernel
set_option maxRecDepth 100000 in
theorem itab_K_14_8_5 : itabK12 14 8 5 = true := by decide +kernel
set_option maxRecDepth 100000 in
theorem itab_K_14_9_7 : itabK12 14 9 7 = true := by decide +kernel
set_option maxRecDepth 100000 in
theorem itab_K_14_10_9 : itabK12 14 10 9 = true := by decide +kernel
set_option maxRecDepth 100000 in
theorem itab_K_14_11_11 : itabK12 14 11 11 = true := by decide +kernel
set_option maxRecDepth 100000 in
theorem itab_K_14_12_13 : itabK12 14 12 13 = true := by decide +kernel
set_option maxRecDepth 100000 in
theorem itab_K_15_1_0 : itabK12 15 1 0 = true := by decide +kernel
set_option maxRecDepth 100000 in
theorem itab_K_15_2_1 : itabK12 15 2 1 = true := by decide +kernel
set_option maxRecDepth 100000 in
theorem itab_K_15_3_2 : itabK12 15 3 2 = true := by decide +kernel
set_option maxRecDepth 100000 in
theorem itab_K_15_4_3 : itabK12 15 4 3 = true := by decide +kernel
set_option maxRecDepth 100000 in
theorem itab_K_15_5_4 : itabK12 15 5 4 = true := by decide +kernel
set_option maxRecDepth 100000 in
theorem itab_K_15_6_5 : itabK12 15 6 5 = true := by decide +kernel
set_option maxRecDepth 100000 in
theorem itab_K_15_7_6 : itabK12 15 7 6 = true := by decide +kernel
set_option maxRecDepth 100000 in
theorem itab_K_15_8_7 : itabK12 15 8 7 = true := by decide +kernel
set_option maxRecDepth 100000 in
theorem itab_K_15_9_8 : itabK12 15 9 8 = true := by decide +kernel
set_option maxRecDepth 100000 in
theorem itab_K_15_10_9 : itabK12 15 10 9 = true := by decide +kernel
set_option maxRecDepth 100000 in
theorem itab_K_15_11_10 : itabK12 15 11 10 = true := by decide +kernel
set_option maxRecDepth 100000 in
theorem itab_K_15_12_11 : itabK12 15 12 11 = true := by decide +kernel
set_option maxRecDepth 100000 in
theorem itab_K_15_13_12 : itabK12 15 13 12 = true := by decide +kernel
end Go.Proofs.YtbehooekcpfgcaaGreatDoor
