/-
  InstTables: cases, run (4).
-/
import Derived.Test.YtbehooekcpfgcaaGreatDoorInstBase
namespace Go.Proofs.YtbehooekcpfgcaaGreatDoor
open Go Vx

noncomputable def itabK4 (s x y : Nat) : Bool := runM 4 [] [.and 0 15 s, .and 1 15 x, .and 2 15 y] 3 [.int .i64 (.var 0), .int .i64 (.var 1), .int .i64 (.var 2)]
noncomputable def itabA4 (s a b c d : Nat) : Bool := runM 4 [⟨1, 15, a, b⟩, ⟨2, 15, c, d⟩] [.and 0 15 s] 3 [.int .i64 (.var 0), .int .i64 (.var 1), .int .i64 (.var 2)]
set_option maxRecDepth 100000 in
theorem itab_A_1_0_0_0_0 : itabA4 1 0 0 0 0 = true := by decide +kernel
set_option maxRecDepth 100000 in
theorem itab_A_5_4_15_1_15 : itabA4 5 4 15 1 15 = true := by decide +kernel
set_option maxRecDepth 100000 in
theorem itab_A_9_8_15_1_15 : itabA4 9 8 15 1 15 = true := by decide +kernel
set_option maxRecDepth 100000 in
theorem itab_A_13_12_15_1_15 : itabA4 13 12 15 1 15 = true := by decide +kernel
set_option maxRecDepth 100000 in
theorem itab_K_3_1_0 : itabK4 3 1 0 = true := by decide +kernel
set_option maxRecDepth 100000 in
theorem itab_K_5_0_1 : itabK4 5 0 1 = true := by decide +kernel
set_option maxRecDepth 100000 in
theorem itab_K_5_3_2 : itabK4 5 3 2 = true := by decide +kernel
set_option maxRecDepth 100000 in
theorem itab_K_6_2_1 : itabK4 6 2 1 = true := by decide +kernel
set_option maxRecDepth 100000 in
theorem itab_K_6_4_5 : itabK4 6 4 5 = true := by decide +kernel
set_option maxRecDepth 100000 in
theorem itab_K_7_2_1 : itabK4 7 2 1 = true := by decide +kernel
set_option maxRecDepth 100000 in
theorem itab_K_7_4_3 : itabK4 7 4 3 = true := by decide +kernel
set_option maxRecDepth 100000 in
theorem itab_K_8_0_5 : itabK4 8 0 5 = true := by decide +kernel
set_option maxRecDepth 100000 in
theorem itab_K_8_2_5 : itabK4 8 2 5 = true := by decide +kernel
set_option maxRecDepth 100000 in
theorem itab_K_8_4_5 : itabK4 8 4 5 = true := by decide +kernel
set_option maxRecDepth 100000 in
theorem itab_K_8_6_5 : itabK4 8 6 5 = true := by decide +kernel
set_option maxRecDepth 100000 in
theorem itab_K_9_1_4 : itabK4 9 1 4 = true := by decide +kernel
set_option maxRecDepth 100000 in
theorem itab_K_9_3_2 : itabK4 9 3 2 = true := by decide +kernel
set_option maxRecDepth 100000 in
theorem itab_K_9_5_0 : itabK4 9 5 0 = true := by decide +kernel
set_option maxRecDepth 100000 in
theorem itab_K_9_6_7 : itabK4 9 6 7 = true := by decide +kernel
set_option maxRecDepth 100000 in
theorem itab_K_10_0_5 : itabK4 10 0 5 = true := by decide +kernel
set_option maxRecDepth 100000 in
theorem itab_K_10_2_1 : itabK4 10 2 1 = true := by decide +kernel
set_option maxRecDepth 100000 in
theorem itab_K_10_3_7 : itabK4 10 3 7 = true := by decide +kernel
set_option maxRecDepth 100000 in
theorem itab_K_10_5_3 : itabK4 10 5 3 = true := by decide +kernel
set_option maxRecDepth 100000 in
theorem itab_K_10_6_9 : itabK4 10 6 9 = true := by decide +kernel
set_option maxRecDepth 100000 in
theorem itab_K_10_8_5 : itabK4 10 8 5 = true := by decide +kernel
set_option maxRecDepth 100000 in
theorem itab_K_11_1_0 : itabK4 11 1 0 = true := by decide +kernel
set_option maxRecDepth 100000 in
theorem itab_K_11_2_5 : itabK4 11 2 5 = true := by decide +kernel
set_option maxRecDepth 100000 in
theorem itab_K_11_3_10 : itabK4 11 3 10 = true := by decide +kernel
set_option maxRecDepth 100000 in
theorem itab_K_11_5_4 : itabK4 11 5 4 = true := by decide +kernel
set_option maxRecDepth 100000 in
theorem itab_K_11_6_9 : itabK4 11 6 9 = true := by decide +kernel
set_option maxRecDepth 100000 in
theorem itab_K_11_8_3 : itabK4 11 8 3 = true := by decide +kernel
set_option maxRecDepth 100000 in
theorem itab_K_11_9_8 : itabK4 11 9 8 = true := by decide +kernel
set_option maxRecDepth 100000 in
theorem itab_K_12_1_1 : itabK4 12 1 1 = true := by decide +kernel
set_option maxRecDepth 100000 in
theorem itab_K_12_2_5 : itabK4 12 2 5 = true := by decide +kernel
set_option maxRecDepth 100000 in
theorem itab_K_12_3_9 : itabK4 12 3 9 = true := by decide +kernel
set_option maxRecDepth 100000 in
theorem itab_K_12_5_1 : itabK4 12 5 1 = true := by decide +kernel
set_option maxRecDepth 100000 in
theorem itab_K_12_6_5 : itabK4 12 6 5 = true := by decide +kernel
set_option maxRecDepth 100000 in
theorem itab_K_12_7_9 : itabK4 12 7 9 = true := by decide +kernel
set_option maxRecDepth 100000 in
theorem itab_K_12_9_1 : itabK4 12 9 1 = true := by decide +kernel
set_option maxRecDepth 100000 in
theorem itab_K_12_10_5 : itabK4 12 10 5 = true := by decide +kernel
set_option maxRecDepth 100000 in
theorem itab_K_13_0_9 : itabK4 13 0 9 = true := by decide +kernel
set_option maxRecDepth 100000 in
theorem itab_K_13_1_12 : itabK4 13 1 12 = true := by decide +kernel
set_option maxRecDepth 100000 in
theorem itab_K_13_3_2 : itabK4 13 3 2 = true := by decide +kernel
set_option maxRecDepth 100000 in
theorem itab_K_13_4_5 : itabK4 13 4 5 = true := by decide +kernel
set_option maxRecDepth 100000 in
theorem itab_K_13_5_8 : itabK4 13 5 8 = true := by decide +kernel
set_option maxRecDepth 100000 in
theorem itab_K_13_6_11 : itabK4 13 6 11 = true := by decide +kernel
set_option maxRecDepth 100000 in
theorem itab_K_13_8_1 : itabK4 13 8 1 = true := by decide +kernel
set_option maxRecDepth 100000 in
theorem itab_K_13_9_4 : itabK4 13 9 4 = true := by decide +kernel
set_option maxRecDepth 100000 in
theorem itab_K_13_10_7 : itabK4 13 10 7 = true := by decide +kernel
set_option maxRecDepth 100000 in
theorem itab_K_13_11_10 : itabK4 13 11 10 = true := by decide +kernel
set_option maxRecDepth 100000 in
theorem itab_K_14_0_13 : itabK4 14 0 13 = true := by decide +kernel
set_option maxRecDepth 100000 in
theorem itab_K_14_2_1 : itabK4 14 2 1 = true := by decide +kernel
set_option maxRecDepth 100000 in
theorem itab_K_14_3_3 : itabK4 14 3 3 = true := by decide +kernel
set_option maxRecDepth 100000 in
theorem itab_K_14_4_5 : itabK4 14 4 5 = true := by decide +kernel
set_option maxRecDepth 100000 in
theorem itab_K_14_5_7 : itabK4 14 5 7 = true := by decide +kernel
set_option maxRecDepth 100000 in
theorem itab_K_14_6_9 : itabK4 14 6 9 = true := by decide +kernel
set_option maxRecDepth 100000 in
theorem itab_K_14_7_11 : itabK4 14 7 11 = true := by decide +kernel
set_option maxRecDepth 100000 in
theorem itab_K_14_8_13 : itabK4 14 8 13 = true := by decide +kernel
set_option maxRecDepth 100000 in
theorem itab_K_14_10_1 : itabK4 14 10 1 = true := by decide +kernel
set_option maxRecDepth 100000 in
theorem itab_K_14_11_3 : itabK4 14 11 3 = true := by decide +kernel
set_option maxRecDepth 100000 in
theorem itab_K_14_12_5 : itabK4 14 12 5 = true := by decide +kernel
set_option maxRecDepth 100000 in
theorem itab_K_15_0_7 : itabK4 15 0 7 = true := by decide +kernel
set_option maxRecDepth 100000 in
theorem itab_K_15_1_8 : itabK4 15 1 8 = true := by decide +kernel
set_option maxRecDepth 100000 in
theorem itab_K_15_2_9 : itabK4 15 2 9 = true := by decide +kernel
set_option maxRecDepth 100000 in
theorem itab_K_15_3_10 : itabK4 15 3 10 = true := by decide +kernel
set_option maxRecDepth 100000 in
theorem itab_K_15_4_11 : itabK4 15 4 11 = true := by decide +kernel
set_option maxRecDepth 100000 in
theorem itab_K_15_5_12 : itabK4 15 5 12 = true := by decide +kernel
set_option maxRecDepth 100000 in
theorem itab_K_15_6_13 : itabK4 15 6 13 = true := by decide +kernel
set_option maxRecDepth 100000 in
theorem itab_K_15_7_14 : itabK4 15 7 14 = true := by decide +kernel
set_option maxRecDepth 100000 in
theorem itab_K_15_9_0 : itabK4 15 9 0 = true := by decide +kernel
set_option maxRecDepth 100000 in
theorem itab_K_15_10_1 : itabK4 15 10 1 = true := by decide +kernel
set_option maxRecDepth 100000 in
theorem itab_K_15_11_2 : itabK4 15 11 2 = true := by decide +kernel
set_option maxRecDepth 100000 in
theorem itab_K_15_12_3 : itabK4 15 12 3 = true := by decide +kernel
set_option maxRecDepth 100000 in
theorem itab_K_15_13_4 : itabK4 15 13 4 = true := by decide +kernel
end Go.Proofs.YtbehooekcpfgcaaGreatDoor
