/-
  InstTables: cases, run (2).
-/
import Derived.Test.YtbehooekcpfgcaaGreatDoorInstBase
namespace Go.Proofs.YtbehooekcpfgcaaGreatDoor
open Go Vx

noncomputable def itabK2 (s x y : Nat) : Bool := runM 4 [] [.and 0 15 s, .and 1 15 x, .and 2 15 y] 3 [.int .i64 (.var 0), .int .i64 (.var 1), .int .i64 (.var 2)]
noncomputable def itabA2 (s a b c d : Nat) : Bool := runM 4 [⟨1, 15, a, b⟩, ⟨2, 15, c, d⟩] [.and 0 15 s] 3 [.int .i64 (.var 0), .int .i64 (.var 1), .int .i64 (.var 2)]
set_option maxRecDepth 100000 in
theorem itab_A_0_1_15_0_0 : itabA2 0 1 15 0 0 = true := by decide +kernel
set_option maxRecDepth 100000 in
theorem itab_A_4_1_2_4_15 : itabA2 4 1 2 4 15 = true := by decide +kernel
set_option maxRecDepth 100000 in
theorem itab_A_8_1_6_8_15 : itabA2 8 1 6 8 15 = true := by decide +kernel
set_option maxRecDepth 100000 in
theorem itab_A_12_1_10_12_15 : itabA2 12 1 10 12 15 = true := by decide +kernel
set_option maxRecDepth 100000 in
theorem itab_K_3_0_1 : itabK2 3 0 1 = true := by decide +kernel
set_option maxRecDepth 100000 in
theorem itab_K_4_2_3 : itabK2 4 2 3 = true := by decide +kernel
set_option maxRecDepth 100000 in
theorem itab_K_5_3_0 : itabK2 5 3 0 = true := by decide +kernel
set_option maxRecDepth 100000 in
theorem itab_K_6_1_5 : itabK2 6 1 5 = true := by decide +kernel
set_option maxRecDepth 100000 in
theorem itab_K_6_4_3 : itabK2 6 4 3 = true := by decide +kernel
set_option maxRecDepth 100000 in
theorem itab_K_7_1_6 : itabK2 7 1 6 = true := by decide +kernel
set_option maxRecDepth 100000 in
theorem itab_K_7_4_1 : itabK2 7 4 1 = true := by decide +kernel
set_option maxRecDepth 100000 in
theorem itab_K_8_0_3 : itabK2 8 0 3 = true := by decide +kernel
set_option maxRecDepth 100000 in
theorem itab_K_8_2_3 : itabK2 8 2 3 = true := by decide +kernel
set_option maxRecDepth 100000 in
theorem itab_K_8_4_3 : itabK2 8 4 3 = true := by decide +kernel
set_option maxRecDepth 100000 in
theorem itab_K_8_6_3 : itabK2 8 6 3 = true := by decide +kernel
set_option maxRecDepth 100000 in
theorem itab_K_9_1_2 : itabK2 9 1 2 = true := by decide +kernel
set_option maxRecDepth 100000 in
theorem itab_K_9_3_0 : itabK2 9 3 0 = true := by decide +kernel
set_option maxRecDepth 100000 in
theorem itab_K_9_4_7 : itabK2 9 4 7 = true := by decide +kernel
set_option maxRecDepth 100000 in
theorem itab_K_9_6_5 : itabK2 9 6 5 = true := by decide +kernel
set_option maxRecDepth 100000 in
theorem itab_K_10_0_3 : itabK2 10 0 3 = true := by decide +kernel
set_option maxRecDepth 100000 in
theorem itab_K_10_1_9 : itabK2 10 1 9 = true := by decide +kernel
set_option maxRecDepth 100000 in
theorem itab_K_10_3_5 : itabK2 10 3 5 = true := by decide +kernel
set_option maxRecDepth 100000 in
theorem itab_K_10_5_1 : itabK2 10 5 1 = true := by decide +kernel
set_option maxRecDepth 100000 in
theorem itab_K_10_6_7 : itabK2 10 6 7 = true := by decide +kernel
set_option maxRecDepth 100000 in
theorem itab_K_10_8_3 : itabK2 10 8 3 = true := by decide +kernel
set_option maxRecDepth 100000 in
theorem itab_K_11_0_9 : itabK2 11 0 9 = true := by decide +kernel
set_option maxRecDepth 100000 in
theorem itab_K_11_2_3 : itabK2 11 2 3 = true := by decide +kernel
set_option maxRecDepth 100000 in
theorem itab_K_11_3_8 : itabK2 11 3 8 = true := by decide +kernel
set_option maxRecDepth 100000 in
theorem itab_K_11_5_2 : itabK2 11 5 2 = true := by decide +kernel
set_option maxRecDepth 100000 in
theorem itab_K_11_6_7 : itabK2 11 6 7 = true := by decide +kernel
set_option maxRecDepth 100000 in
theorem itab_K_11_8_1 : itabK2 11 8 1 = true := by decide +kernel
set_option maxRecDepth 100000 in
theorem itab_K_11_9_6 : itabK2 11 9 6 = true := by decide +kernel
set_option maxRecDepth 100000 in
theorem itab_K_12_0_11 : itabK2 12 0 11 = true := by decide +kernel
set_option maxRecDepth 100000 in
theorem itab_K_12_2_3 : itabK2 12 2 3 = true := by decide +kernel
set_option maxRecDepth 100000 in
theorem itab_K_12_3_7 : itabK2 12 3 7 = true := by decide +kernel
set_option maxRecDepth 100000 in
theorem itab_K_12_4_11 : itabK2 12 4 11 = true := by decide +kernel
set_option maxRecDepth 100000 in
theorem itab_K_12_6_3 : itabK2 12 6 3 = true := by decide +kernel
set_option maxRecDepth 100000 in
theorem itab_K_12_7_7 : itabK2 12 7 7 = true := by decide +kernel
set_option maxRecDepth 100000 in
theorem itab_K_12_8_11 : itabK2 12 8 11 = true := by decide +kernel
set_option maxRecDepth 100000 in
theorem itab_K_12_10_3 : itabK2 12 10 3 = true := by decide +kernel
set_option maxRecDepth 100000 in
theorem itab_K_13_0_7 : itabK2 13 0 7 = true := by decide +kernel
set_option maxRecDepth 100000 in
theorem itab_K_13_1_10 : itabK2 13 1 10 = true := by decide +kernel
set_option maxRecDepth 100000 in
theorem itab_K_13_3_0 : itabK2 13 3 0 = true := by decide +kernel
set_option maxRecDepth 100000 in
theorem itab_K_13_4_3 : itabK2 13 4 3 = true := by decide +kernel
set_option maxRecDepth 100000 in
theorem itab_K_13_5_6 : itabK2 13 5 6 = true := by decide +kernel
set_option maxRecDepth 100000 in
theorem itab_K_13_6_9 : itabK2 13 6 9 = true := by decide +kernel
set_option maxRecDepth 100000 in
theorem itab_K_13_7_12 : itabK2 13 7 12 = true := by decide +kernel
set_option maxRecDepth 100000 in
theorem itab_K_13_9_2 : itabK2 13 9 2 = true := by decide +kernel
set_option maxRecDepth 100000 in
theorem itab_K_13_10_5 : itabK2 13 10 5 = true := by decide +kernel
set_option maxRecDepth 100000 in
theorem itab_K_13_11_8 : itabK2 13 11 8 = true := by decide +kernel
set_option maxRecDepth 100000 in
theorem itab_K_14_0_11 : itabK2 14 0 11 = true := by decide +kernel
set_option maxRecDepth 100000 in
theorem itab_K_14_1_13 : itabK2 14 1 13 = true := by decide +kernel
set_option maxRecDepth 100000 in
theorem itab_K_14_3_1 : itabK2 14 3 1 = true := by decide +kernel
set_option maxRecDepth 100000 in
theorem itab_K_14_4_3 : itabK2 14 4 3 = true := by decide +kernel
set_option maxRecDepth 100000 in
theorem itab_K_14_5_5 : itabK2 14 5 5 = true := by decide +kernel
set_option maxRecDepth 100000 in
theorem itab_K_14_6_7 : itabK2 14 6 7 = true := by decide +kernel
set_option maxRecDepth 100000 in
theorem itab_K_14_7_9 : itabK2 14 7 9 = true := by decide +kernel
set_option maxRecDepth 100000 in
theorem itab_K_14_8_11 : itabK2 14 8 11 = true := by decide +kernel
set_option maxRecDepth 100000 in
theorem itab_K_14_9_13 : itabK2 14 9 13 = true := by decide +kernel
set_option maxRecDepth 100000 in
theorem itab_K_14_11_1 : itabK2 14 11 1 = true := by decide +kernel
set_option maxRecDepth 100000 in
theorem itab_K_14_12_3 : itabK2 14 12 3 = true := by decide +kernel
set_option maxRecDepth 100000 in
theorem itab_K_15_0_5 : itabK2 15 0 5 = true := by decide +kernel
set_option maxRecDepth 100000 in
theorem itab_K_15_1_6 : itabK2 15 1 6 = true := by decide +kernel
set_option maxRecDepth 100000 in
theorem itab_K_15_2_7 : itabK2 15 2 7 = true := by decide +kernel
set_option maxRecDepth 100000 in
theorem itab_K_15_3_8 : itabK2 15 3 8 = true := by decide +kernel
set_option maxRecDepth 100000 in
theorem itab_K_15_4_9 : itabK2 15 4 9 = true := by decide +kernel
set_option maxRecDepth 100000 in
theorem itab_K_15_5_10 : itabK2 15 5 10 = true := by decide +kernel
set_option maxRecDepth 100000 in
theorem itab_K_15_6_11 : itabK2 15 6 11 = true := by decide +kernel
set_option maxRecDepth 100000 in
theorem itab_K_15_7_12 : itabK2 15 7 12 = true := by decide +kernel
set_option maxRecDepth 100000 in
theorem itab_K_15_8_13 : itabK2 15 8 13 = true := by decide +kernel
set_option maxRecDepth 100000 in
theorem itab_K_15_9_14 : itabK2 15 9 14 = true := by decide +kernel
set_option maxRecDepth 100000 in
theorem itab_K_15_11_0 : itabK2 15 11 0 = true := by decide +kernel
set_option maxRecDepth 100000 in
theorem itab_K_15_12_1 : itabK2 15 12 1 = true := by decide +kernel
set_option maxRecDepth 100000 in
theorem itab_K_15_13_2 : itabK2 15 13 2 = true := by decide +kernel
end Go.Proofs.YtbehooekcpfgcaaGreatDoor
