/-
  InstTables: cases, run (11).
-/
import Derived.Test.YtbehooekcpfgcaaGreatDoorInstBase
namespace Go.Proofs.YtbehooekcpfgcaaGreatDoor
open Go Vx

noncomputable def itabK11 (s x y : Nat) : Bool := runM 4 [] [.and 0 15 s, .and 1 15 x, .and 2 15 y] 3 [.int .i64 (.var 0), .int .i64 (.var 1), .int .i64 (.var 2)]
noncomputable def itabA11 (s a b c d : Nat) : Bool := runM 4 [⟨1, 15, a, b⟩, ⟨2, 15, c, d⟩] [.and 0 15 s] 3 [.int .i64 (.var 0), .int .i64 (.var 1), .int .i64 (.var 2)]
set_option maxRecDepth 100000 in
theorem itab_A_3_2_15_0_0 : itabA11 3 2 15 0 0 = true := by decide +kernel
set_option maxRecDepth 100000 in
theorem itab_A_7_6_15_0_0 : itabA11 7 6 15 0 0 = true := by decide +kernel
set_option maxRecDepth 100000 in
theorem itab_A_11_10_15_0_0 : itabA11 11 10 15 0 0 = true := by decide +kernel
set_option maxRecDepth 100000 in
theorem itab_A_15_14_15_0_0 : itabA11 15 14 15 0 0 = true := by decide +kernel
set_option maxRecDepth 100000 in
theorem itab_K_4_1_0 : itabK11 4 1 0 = true := by decide +kernel
set_option maxRecDepth 100000 in
theorem itab_K_5_1_3 : itabK11 5 1 3 = true := by decide +kernel
set_option maxRecDepth 100000 in
theorem itab_K_6_0_4 : itabK11 6 0 4 = true := by decide +kernel
set_option maxRecDepth 100000 in
theorem itab_K_6_3_2 : itabK11 6 3 2 = true := by decide +kernel
set_option maxRecDepth 100000 in
theorem itab_K_7_0_6 : itabK11 7 0 6 = true := by decide +kernel
set_option maxRecDepth 100000 in
theorem itab_K_7_3_1 : itabK11 7 3 1 = true := by decide +kernel
set_option maxRecDepth 100000 in
theorem itab_K_7_5_3 : itabK11 7 5 3 = true := by decide +kernel
set_option maxRecDepth 100000 in
theorem itab_K_8_1_4 : itabK11 8 1 4 = true := by decide +kernel
set_option maxRecDepth 100000 in
theorem itab_K_8_3_4 : itabK11 8 3 4 = true := by decide +kernel
set_option maxRecDepth 100000 in
theorem itab_K_8_5_4 : itabK11 8 5 4 = true := by decide +kernel
set_option maxRecDepth 100000 in
theorem itab_K_9_0_4 : itabK11 9 0 4 = true := by decide +kernel
set_option maxRecDepth 100000 in
theorem itab_K_9_2_2 : itabK11 9 2 2 = true := by decide +kernel
set_option maxRecDepth 100000 in
theorem itab_K_9_4_0 : itabK11 9 4 0 = true := by decide +kernel
set_option maxRecDepth 100000 in
theorem itab_K_9_5_7 : itabK11 9 5 7 = true := by decide +kernel
set_option maxRecDepth 100000 in
theorem itab_K_9_7_5 : itabK11 9 7 5 = true := by decide +kernel
set_option maxRecDepth 100000 in
theorem itab_K_10_1_2 : itabK11 10 1 2 = true := by decide +kernel
set_option maxRecDepth 100000 in
theorem itab_K_10_2_8 : itabK11 10 2 8 = true := by decide +kernel
set_option maxRecDepth 100000 in
theorem itab_K_10_4_4 : itabK11 10 4 4 = true := by decide +kernel
set_option maxRecDepth 100000 in
theorem itab_K_10_6_0 : itabK11 10 6 0 = true := by decide +kernel
set_option maxRecDepth 100000 in
theorem itab_K_10_7_6 : itabK11 10 7 6 = true := by decide +kernel
set_option maxRecDepth 100000 in
theorem itab_K_11_0_2 : itabK11 11 0 2 = true := by decide +kernel
set_option maxRecDepth 100000 in
theorem itab_K_11_1_7 : itabK11 11 1 7 = true := by decide +kernel
set_option maxRecDepth 100000 in
theorem itab_K_11_3_1 : itabK11 11 3 1 = true := by decide +kernel
set_option maxRecDepth 100000 in
theorem itab_K_11_4_6 : itabK11 11 4 6 = true := by decide +kernel
set_option maxRecDepth 100000 in
theorem itab_K_11_6_0 : itabK11 11 6 0 = true := by decide +kernel
set_option maxRecDepth 100000 in
theorem itab_K_11_7_5 : itabK11 11 7 5 = true := by decide +kernel
set_option maxRecDepth 100000 in
theorem itab_K_11_8_10 : itabK11 11 8 10 = true := by decide +kernel
set_option maxRecDepth 100000 in
theorem itab_K_12_0_4 : itabK11 12 0 4 = true := by decide +kernel
set_option maxRecDepth 100000 in
theorem itab_K_12_1_8 : itabK11 12 1 8 = true := by decide +kernel
set_option maxRecDepth 100000 in
theorem itab_K_12_3_0 : itabK11 12 3 0 = true := by decide +kernel
set_option maxRecDepth 100000 in
theorem itab_K_12_4_4 : itabK11 12 4 4 = true := by decide +kernel
set_option maxRecDepth 100000 in
theorem itab_K_12_5_8 : itabK11 12 5 8 = true := by decide +kernel
set_option maxRecDepth 100000 in
theorem itab_K_12_7_0 : itabK11 12 7 0 = true := by decide +kernel
set_option maxRecDepth 100000 in
theorem itab_K_12_8_4 : itabK11 12 8 4 = true := by decide +kernel
set_option maxRecDepth 100000 in
theorem itab_K_12_9_8 : itabK11 12 9 8 = true := by decide +kernel
set_option maxRecDepth 100000 in
theorem itab_K_13_0_0 : itabK11 13 0 0 = true := by decide +kernel
set_option maxRecDepth 100000 in
theorem itab_K_13_1_3 : itabK11 13 1 3 = true := by decide +kernel
set_option maxRecDepth 100000 in
theorem itab_K_13_2_6 : itabK11 13 2 6 = true := by decide +kernel
set_option maxRecDepth 100000 in
theorem itab_K_13_3_9 : itabK11 13 3 9 = true := by decide +kernel
set_option maxRecDepth 100000 in
theorem itab_K_13_4_12 : itabK11 13 4 12 = true := by decide +kernel
set_option maxRecDepth 100000 in
theorem itab_K_13_6_2 : itabK11 13 6 2 = true := by decide +kernel
set_option maxRecDepth 100000 in
theorem itab_K_13_7_5 : itabK11 13 7 5 = true := by decide +kernel
set_option maxRecDepth 100000 in
theorem itab_K_13_8_8 : itabK11 13 8 8 = true := by decide +kernel
set_option maxRecDepth 100000 in
theorem itab_K_13_9_11 : itabK11 13 9 11 = true := by decide +kernel
set_option maxRecDepth 100000 in
theorem itab_K_13_11_1 : itabK11 13 11 1 = true := by decide +kernel
set_option maxRecDepth 100000 in
theorem itab_K_14_0_4 : itabK11 14 0 4 = true := by decide +kernel
set_option maxRecDepth 100000 in
theorem itab_K_14_1_6 : itabK11 14 1 6 = true := by decide +kernel
set_option maxRecDepth 100000 in
theorem itab_K_14_2_8 : itabK11 14 2 8 = true := by decide +kernel
set_option maxRecDepth 100000 in
theorem itab_K_14_3_10 : itabK11 14 3 10 = true := by decide +kernel
set_option maxRecDepth 100000 in
theorem itab_K_14_4_12 : itabK11 14 4 12 = true := by decide +kernel
set_option maxRecDepth 100000 in
theorem itab_K_14_6_0 : itabK11 14 6 0 = true := by decide +kernel
set_option maxRecDepth 100000 in
theorem itab_K_14_7_2 : itabK11 14 7 2 = true := by decide +kernel
set_option maxRecDepth 100000 in
theorem itab_K_14_8_4 : itabK11 14 8 4 = true := by decide +kernel
set_option maxRecDepth 100000 in
theorem itab_K_14_9_6 : itabK11 14 9 6 = true := by decide +kernel
set_option maxRecDepth 100000 in
theorem itab_K_14_10_8 : itabK11 14 10 8 = true := by decide +kernel
set_option maxRecDepth 100000 in
theorem itab_K_14_11_10 : itabK11 14 11 10 = true := by decide +kernel
set_option maxRecDepth 100000 in
theorem itab_K_14_12_12 : itabK11 14 12 12 = true := by decide +kernel
set_option maxRecDepth 100000 in
theorem itab_K_15_0_14 : itabK11 15 0 14 = true := by decide +kernel
set_option maxRecDepth 100000 in
theorem itab_K_15_2_0 : itabK11 15 2 0 = true := by decide +kernel
set_option maxRecDepth 100000 in
theorem itab_K_15_3_1 : itabK11 15 3 1 = true := by decide +kernel
set_option maxRecDepth 100000 in
theorem itab_K_15_4_2 : itabK11 15 4 2 = true := by decide +kernel
set_option maxRecDepth 100000 in
theorem itab_K_15_5_3 : itabK11 15 5 3 = true := by decide +kernel
set_option maxRecDepth 100000 in
theorem itab_K_15_6_4 : itabK11 15 6 4 = true := by decide +kernel
set_option maxRecDepth 100000 in
theorem itab_K_15_7_5 : itabK11 15 7 5 = true := by decide +kernel
set_option maxRecDepth 100000 in
theorem itab_K_15_8_6 : itabK11 15 8 6 = true := by decide +kernel
set_option maxRecDepth 100000 in
theorem itab_K_15_9_7 : itabK11 15 9 7 = true := by decide +kernel
set_option maxRecDepth 100000 in
theorem itab_K_15_10_8 : itabK11 15 10 8 = true := by decide +kernel
set_option maxRecDepth 100000 in
theorem itab_K_15_11_9 : itabK11 15 11 9 = true := by decide +kernel
set_option maxRecDepth 100000 in
theorem itab_K_15_12_10 : itabK11 15 12 10 = true := by decide +kernel
set_option maxRecDepth 100000 in
theorem itab_K_15_13_11 : itabK11 15 13 11 = true := by decide +kernel
end Go.Proofs.YtbehooekcpfgcaaGreatDoor
