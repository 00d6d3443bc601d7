/-
  InstTables: cases, run (1).
-/
import Derived.Test.YtbehooekcpfgcaaGreatDoorInstBase
namespace Go.Proofs.YtbehooekcpfgcaaGreatDoor
open Go Vx

noncomputable def itabK1 (s x y : Nat) : Bool := runM 4 [] [.and 0 15 s, .and 1 15 x, .and 2 15 y] 3 [.int .i64 (.var 0), .int .i64 (.var 1), .int .i64 (.var 2)]
noncomputable def itabA1 (s a b c d : Nat) : Bool := runM 4 [⟨1, 15, a, b⟩, ⟨2, 15, c, d⟩] [.and 0 15 s] 3 [.int .i64 (.var 0), .int .i64 (.var 1), .int .i64 (.var 2)]
set_option maxRecDepth 100000 in
theorem itab_A_0_0_0_1_15 : itabA1 0 0 0 1 15 = true := by decide +kernel
set_option maxRecDepth 100000 in
theorem itab_A_4_0_0_4_15 : itabA1 4 0 0 4 15 = true := by decide +kernel
set_option maxRecDepth 100000 in
theorem itab_A_8_0_0_8_15 : itabA1 8 0 0 8 15 = true := by decide +kernel
set_option maxRecDepth 100000 in
theorem itab_A_12_0_0_12_15 : itabA1 12 0 0 12 15 = true := by decide +kernel
set_option maxRecDepth 100000 in
theorem itab_K_3_0_0 : itabK1 3 0 0 = true := by decide +kernel
set_option maxRecDepth 100000 in
theorem itab_K_4_2_2 : itabK1 4 2 2 = true := by decide +kernel
set_option maxRecDepth 100000 in
theorem itab_K_5_2_4 : itabK1 5 2 4 = true := by decide +kernel
set_option maxRecDepth 100000 in
theorem itab_K_6_1_4 : itabK1 6 1 4 = true := by decide +kernel
set_option maxRecDepth 100000 in
theorem itab_K_6_4_2 : itabK1 6 4 2 = true := by decide +kernel
set_option maxRecDepth 100000 in
theorem itab_K_7_1_5 : itabK1 7 1 5 = true := by decide +kernel
set_option maxRecDepth 100000 in
theorem itab_K_7_4_0 : itabK1 7 4 0 = true := by decide +kernel
set_option maxRecDepth 100000 in
theorem itab_K_8_0_2 : itabK1 8 0 2 = true := by decide +kernel
set_option maxRecDepth 100000 in
theorem itab_K_8_2_2 : itabK1 8 2 2 = true := by decide +kernel
set_option maxRecDepth 100000 in
theorem itab_K_8_4_2 : itabK1 8 4 2 = true := by decide +kernel
set_option maxRecDepth 100000 in
theorem itab_K_8_6_2 : itabK1 8 6 2 = true := by decide +kernel
set_option maxRecDepth 100000 in
theorem itab_K_9_1_1 : itabK1 9 1 1 = true := by decide +kernel
set_option maxRecDepth 100000 in
theorem itab_K_9_2_8 : itabK1 9 2 8 = true := by decide +kernel
set_option maxRecDepth 100000 in
theorem itab_K_9_4_6 : itabK1 9 4 6 = true := by decide +kernel
set_option maxRecDepth 100000 in
theorem itab_K_9_6_4 : itabK1 9 6 4 = true := by decide +kernel
set_option maxRecDepth 100000 in
theorem itab_K_10_0_2 : itabK1 10 0 2 = true := by decide +kernel
set_option maxRecDepth 100000 in
theorem itab_K_10_1_8 : itabK1 10 1 8 = true := by decide +kernel
set_option maxRecDepth 100000 in
theorem itab_K_10_3_4 : itabK1 10 3 4 = true := by decide +kernel
set_option maxRecDepth 100000 in
theorem itab_K_10_5_0 : itabK1 10 5 0 = true := by decide +kernel
set_option maxRecDepth 100000 in
theorem itab_K_10_6_6 : itabK1 10 6 6 = true := by decide +kernel
set_option maxRecDepth 100000 in
theorem itab_K_10_8_2 : itabK1 10 8 2 = true := by decide +kernel
set_option maxRecDepth 100000 in
theorem itab_K_11_0_8 : itabK1 11 0 8 = true := by decide +kernel
set_option maxRecDepth 100000 in
theorem itab_K_11_2_2 : itabK1 11 2 2 = true := by decide +kernel
set_option maxRecDepth 100000 in
theorem itab_K_11_3_7 : itabK1 11 3 7 = true := by decide +kernel
set_option maxRecDepth 100000 in
theorem itab_K_11_5_1 : itabK1 11 5 1 = true := by decide +kernel
set_option maxRecDepth 100000 in
theorem itab_K_11_6_6 : itabK1 11 6 6 = true := by decide +kernel
set_option maxRecDepth 100000 in
theorem itab_K_11_8_0 : itabK1 11 8 0 = true := by decide +kernel
set_option maxRecDepth 100000 in
theorem itab_K_11_9_5 : itabK1 11 9 5 = true := by decide +kernel
set_option maxRecDepth 100000 in
theorem itab_K_12_0_10 : itabK1 12 0 10 = true := by decide +kernel
set_option maxRecDepth 100000 in
theorem itab_K_12_2_2 : itabK1 12 2 2 = true := by decide +kernel
set_option maxRecDepth 100000 in
theorem itab_K_12_3_6 : itabK1 12 3 6 = true := by decide +kernel
set_option maxRecDepth 100000 in
theorem itab_K_12_4_10 : itabK1 12 4 10 = true := by decide +kernel
set_option maxRecDepth 100000 in
theorem itab_K_12_6_2 : itabK1 12 6 2 = true := by decide +kernel
set_option maxRecDepth 100000 in
theorem itab_K_12_7_6 : itabK1 12 7 6 = true := by decide +kernel
set_option maxRecDepth 100000 in
theorem itab_K_12_8_10 : itabK1 12 8 10 = true := by decide +kernel
set_option maxRecDepth 100000 in
theorem itab_K_12_10_2 : itabK1 12 10 2 = true := by decide +kernel
set_option maxRecDepth 100000 in
theorem itab_K_13_0_6 : itabK1 13 0 6 = true := by decide +kernel
set_option maxRecDepth 100000 in
theorem itab_K_13_1_9 : itabK1 13 1 9 = true := by decide +kernel
set_option maxRecDepth 100000 in
theorem itab_K_13_2_12 : itabK1 13 2 12 = true := by decide +kernel
set_option maxRecDepth 100000 in
theorem itab_K_13_4_2 : itabK1 13 4 2 = true := by decide +kernel
set_option maxRecDepth 100000 in
theorem itab_K_13_5_5 : itabK1 13 5 5 = true := by decide +kernel
set_option maxRecDepth 100000 in
theorem itab_K_13_6_8 : itabK1 13 6 8 = true := by decide +kernel
set_option maxRecDepth 100000 in
theorem itab_K_13_7_11 : itabK1 13 7 11 = true := by decide +kernel
set_option maxRecDepth 100000 in
theorem itab_K_13_9_1 : itabK1 13 9 1 = true := by decide +kernel
set_option maxRecDepth 100000 in
theorem itab_K_13_10_4 : itabK1 13 10 4 = true := by decide +kernel
set_option maxRecDepth 100000 in
theorem itab_K_13_11_7 : itabK1 13 11 7 = true := by decide +kernel
set_option maxRecDepth 100000 in
theorem itab_K_14_0_10 : itabK1 14 0 10 = true := by decide +kernel
set_option maxRecDepth 100000 in
theorem itab_K_14_1_12 : itabK1 14 1 12 = true := by decide +kernel
set_option maxRecDepth 100000 in
theorem itab_K_14_3_0 : itabK1 14 3 0 = true := by decide +kernel
set_option maxRecDepth 100000 in
theorem itab_K_14_4_2 : itabK1 14 4 2 = true := by decide +kernel
set_option maxRecDepth 100000 in
theorem itab_K_14_5_4 : itabK1 14 5 4 = true := by decide +kernel
set_option maxRecDepth 100000 in
theorem itab_K_14_6_6 : itabK1 14 6 6 = true := by decide +kernel
set_option maxRecDepth 100000 in
theorem itab_K_14_7_8 : itabK1 14 7 8 = true := by decide +kernel
set_option maxRecDepth 100000 in
theorem itab_K_14_8_10 : itabK1 14 8 10 = true := by decide +kernel
set_option maxRecDepth 100000 in
theorem itab_K_14_9_12 : itabK1 14 9 12 = true := by decide +kernel
set_option maxRecDepth 100000 in
theorem itab_K_14_11_0 : itabK1 14 11 0 = true := by decide +kernel
set_option maxRecDepth 100000 in
theorem itab_K_14_12_2 : itabK1 14 12 2 = true := by decide +kernel
set_option maxRecDepth 100000 in
theorem itab_K_15_0_4 : itabK1 15 0 4 = true := by decide +kernel
set_option maxRecDepth 100000 in
theorem itab_K_15_1_5 : itabK1 15 1 5 = true := by decide +kernel
set_option maxRecDepth 100000 in
theorem itab_K_15_2_6 : itabK1 15 2 6 = true := by decide +kernel
set_option maxRecDepth 100000 in
theorem itab_K_15_3_7 : itabK1 15 3 7 = true := by decide +kernel
set_option maxRecDepth 100000 in
theorem itab_K_15_4_8 : itabK1 15 4 8 = true := by decide +kernel
set_option maxRecDepth 100000 in
theorem itab_K_15_5_9 : itabK1 15 5 9 = true := by decide +kernel
set_option maxRecDepth 100000 in
theorem itab_K_15_6_10 : itabK1 15 6 10 = true := by decide +kernel
set_option maxRecDepth 100000 in
theorem itab_K_15_7_11 : itabK1 15 7 11 = true := by decide +kernel
set_option maxRecDepth 100000 in
theorem itab_K_15_8_12 : itabK1 15 8 12 = true := by decide +kernel
set_option maxRecDepth 100000 in
theorem itab_K_15_9_13 : itabK1 15 9 13 = true := by decide +kernel
set_option maxRecDepth 100000 in
theorem itab_K_15_10_14 : itabK1 15 10 14 = true := by decide +kernel
set_option maxRecDepth 100000 in
theorem itab_K_15_12_0 : itabK1 15 12 0 = true := by decide +kernel
set_option maxRecDepth 100000 in
theorem itab_K_15_13_1 : itabK1 15 13 1 = true := by decide +kernel
end Go.Proofs.YtbehooekcpfgcaaGreatDoor
