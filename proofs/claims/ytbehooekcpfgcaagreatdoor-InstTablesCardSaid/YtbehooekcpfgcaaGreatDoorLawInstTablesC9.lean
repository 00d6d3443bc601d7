/-
  InstTables: cases, run (9).
-/
import Derived.Test.YtbehooekcpfgcaaGreatDoorInstBase
namespace Go.Proofs.YtbehooekcpfgcaaGreatDoor
open Go Vx

noncomputable def itabK9 (s x y : Nat) : Bool := runM 4 [] [.and 0 15 s, .and 1 15 x, .and 2 15 y] 3 [.int .i64 (.var 0), .int .i64 (.var 1), .int .i64 (.var 2)]
noncomputable def itabA9 (s a b c d : Nat) : Bool := runM 4 [⟨1, 15, a, b⟩, ⟨2, 15, c, d⟩] [.and 0 15 s] 3 [.int .i64 (.var 0), .int .i64 (.var 1), .int .i64 (.var 2)]
set_option maxRecDepth 100000 in
theorem itab_A_2_1_15_1_15 : itabA9 2 1 15 1 15 = true := by decide +kernel
set_option maxRecDepth 100000 in
theorem itab_A_6_0_0_6_15 : itabA9 6 0 0 6 15 = true := by decide +kernel
set_option maxRecDepth 100000 in
theorem itab_A_10_0_0_10_15 : itabA9 10 0 0 10 15 = true := by decide +kernel
set_option maxRecDepth 100000 in
theorem itab_A_14_0_0_14_15 : itabA9 14 0 0 14 15 = true := by decide +kernel
set_option maxRecDepth 100000 in
theorem itab_K_4_0_2 : itabK9 4 0 2 = true := by decide +kernel
set_option maxRecDepth 100000 in
theorem itab_K_5_1_1 : itabK9 5 1 1 = true := by decide +kernel
set_option maxRecDepth 100000 in
theorem itab_K_6_0_2 : itabK9 6 0 2 = true := by decide +kernel
set_option maxRecDepth 100000 in
theorem itab_K_6_3_0 : itabK9 6 3 0 = true := by decide +kernel
set_option maxRecDepth 100000 in
theorem itab_K_7_0_4 : itabK9 7 0 4 = true := by decide +kernel
set_option maxRecDepth 100000 in
theorem itab_K_7_2_6 : itabK9 7 2 6 = true := by decide +kernel
set_option maxRecDepth 100000 in
theorem itab_K_7_5_1 : itabK9 7 5 1 = true := by decide +kernel
set_option maxRecDepth 100000 in
theorem itab_K_8_1_2 : itabK9 8 1 2 = true := by decide +kernel
set_option maxRecDepth 100000 in
theorem itab_K_8_3_2 : itabK9 8 3 2 = true := by decide +kernel
set_option maxRecDepth 100000 in
theorem itab_K_8_5_2 : itabK9 8 5 2 = true := by decide +kernel
set_option maxRecDepth 100000 in
theorem itab_K_9_0_2 : itabK9 9 0 2 = true := by decide +kernel
set_option maxRecDepth 100000 in
theorem itab_K_9_2_0 : itabK9 9 2 0 = true := by decide +kernel
set_option maxRecDepth 100000 in
theorem itab_K_9_3_7 : itabK9 9 3 7 = true := by decide +kernel
set_option maxRecDepth 100000 in
theorem itab_K_9_5_5 : itabK9 9 5 5 = true := by decide +kernel
set_option maxRecDepth 100000 in
theorem itab_K_9_7_3 : itabK9 9 7 3 = true := by decide +kernel
set_option maxRecDepth 100000 in
theorem itab_K_10_1_0 : itabK9 10 1 0 = true := by decide +kernel
set_option maxRecDepth 100000 in
theorem itab_K_10_2_6 : itabK9 10 2 6 = true := by decide +kernel
set_option maxRecDepth 100000 in
theorem itab_K_10_4_2 : itabK9 10 4 2 = true := by decide +kernel
set_option maxRecDepth 100000 in
theorem itab_K_10_5_8 : itabK9 10 5 8 = true := by decide +kernel
set_option maxRecDepth 100000 in
theorem itab_K_10_7_4 : itabK9 10 7 4 = true := by decide +kernel
set_option maxRecDepth 100000 in
theorem itab_K_11_0_0 : itabK9 11 0 0 = true := by decide +kernel
set_option maxRecDepth 100000 in
theorem itab_K_11_1_5 : itabK9 11 1 5 = true := by decide +kernel
set_option maxRecDepth 100000 in
theorem itab_K_11_2_10 : itabK9 11 2 10 = true := by decide +kernel
set_option maxRecDepth 100000 in
theorem itab_K_11_4_4 : itabK9 11 4 4 = true := by decide +kernel
set_option maxRecDepth 100000 in
theorem itab_K_11_5_9 : itabK9 11 5 9 = true := by decide +kernel
set_option maxRecDepth 100000 in
theorem itab_K_11_7_3 : itabK9 11 7 3 = true := by decide +kernel
set_option maxRecDepth 100000 in
theorem itab_K_11_8_8 : itabK9 11 8 8 = true := by decide +kernel
set_option maxRecDepth 100000 in
theorem itab_K_12_0_2 : itabK9 12 0 2 = true := by decide +kernel
set_option maxRecDepth 100000 in
theorem itab_K_12_1_6 : itabK9 12 1 6 = true := by decide +kernel
set_option maxRecDepth 100000 in
theorem itab_K_12_2_10 : itabK9 12 2 10 = true := by decide +kernel
set_option maxRecDepth 100000 in
theorem itab_K_12_4_2 : itabK9 12 4 2 = true := by decide +kernel
set_option maxRecDepth 100000 in
theorem itab_K_12_5_6 : itabK9 12 5 6 = true := by decide +kernel
set_option maxRecDepth 100000 in
theorem itab_K_12_6_10 : itabK9 12 6 10 = true := by decide +kernel
set_option maxRecDepth 100000 in
theorem itab_K_12_8_2 : itabK9 12 8 2 = true := by decide +kernel
set_option maxRecDepth 100000 in
theorem itab_K_12_9_6 : itabK9 12 9 6 = true := by decide +kernel
set_option maxRecDepth 100000 in
theorem itab_K_12_10_10 : itabK9 12 10 10 = true := by decide +kernel
set_option maxRecDepth 100000 in
theorem itab_K_13_1_1 : itabK9 13 1 1 = true := by decide +kernel
set_option maxRecDepth 100000 in
theorem itab_K_13_2_4 : itabK9 13 2 4 = true := by decide +kernel
set_option maxRecDepth 100000 in
theorem itab_K_13_3_7 : itabK9 13 3 7 = true := by decide +kernel
set_option maxRecDepth 100000 in
theorem itab_K_13_4_10 : itabK9 13 4 10 = true := by decide +kernel
set_option maxRecDepth 100000 in
theorem itab_K_13_6_0 : itabK9 13 6 0 = true := by decide +kernel
set_option maxRecDepth 100000 in
theorem itab_K_13_7_3 : itabK9 13 7 3 = true := by decide +kernel
set_option maxRecDepth 100000 in
theorem itab_K_13_8_6 : itabK9 13 8 6 = true := by decide +kernel
set_option maxRecDepth 100000 in
theorem itab_K_13_9_9 : itabK9 13 9 9 = true := by decide +kernel
set_option maxRecDepth 100000 in
theorem itab_K_13_10_12 : itabK9 13 10 12 = true := by decide +kernel
set_option maxRecDepth 100000 in
theorem itab_K_14_0_2 : itabK9 14 0 2 = true := by decide +kernel
set_option maxRecDepth 100000 in
theorem itab_K_14_1_4 : itabK9 14 1 4 = true := by decide +kernel
set_option maxRecDepth 100000 in
theorem itab_K_14_2_6 : itabK9 14 2 6 = true := by decide +kernel
set_option maxRecDepth 100000 in
theorem itab_K_14_3_8 : itabK9 14 3 8 = true := by decide +kernel
set_option maxRecDepth 100000 in
theorem itab_K_14_4_10 : itabK9 14 4 10 = true := by decide +kernel
set_option maxRecDepth 100000 in
theorem itab_K_14_5_12 : itabK9 14 5 12 = true := by decide +kernel
set_option maxRecDepth 100000 in
theorem itab_K_14_7_0 : itabK9 14 7 0 = true := by decide +kernel
set_option maxRecDepth 100000 in
theorem itab_K_14_8_2 : itabK9 14 8 2 = true := by decide +kernel
set_option maxRecDepth 100000 in
theorem itab_K_14_9_4 : itabK9 14 9 4 = true := by decide +kernel
set_option maxRecDepth 100000 in
theorem itab_K_14_10_6 : itabK9 14 10 6 = true := by decide +kernel
set_option maxRecDepth 100000 in
theorem itab_K_14_11_8 : itabK9 14 11 8 = true := by decide +kernel
set_option maxRecDepth 100000 in
theorem itab_K_14_12_10 : itabK9 14 12 10 = true := by decide +kernel
set_option maxRecDepth 100000 in
theorem itab_K_15_0_12 : itabK9 15 0 12 = true := by decide +kernel
set_option maxRecDepth 100000 in
theorem itab_K_15_1_13 : itabK9 15 1 13 = true := by decide +kernel
set_option maxRecDepth 100000 in
theorem itab_K_15_2_14 : itabK9 15 2 14 = true := by decide +kernel
set_option maxRecDepth 100000 in
theorem itab_K_15_4_0 : itabK9 15 4 0 = true := by decide +kernel
set_option maxRecDepth 100000 in
theorem itab_K_15_5_1 : itabK9 15 5 1 = true := by decide +kernel
set_option maxRecDepth 100000 in
theorem itab_K_15_6_2 : itabK9 15 6 2 = true := by decide +kernel
set_option maxRecDepth 100000 in
theorem itab_K_15_7_3 : itabK9 15 7 3 = true := by decide +kernel
set_option maxRecDepth 100000 in
theorem itab_K_15_8_4 : itabK9 15 8 4 = true := by decide +kernel
set_option maxRecDepth 100000 in
theorem itab_K_15_9_5 : itabK9 15 9 5 = true := by decide +kernel
set_option maxRecDepth 100000 in
theorem itab_K_15_10_6 : itabK9 15 10 6 = true := by decide +kernel
set_option maxRecDepth 100000 in
theorem itab_K_15_11_7 : itabK9 15 11 7 = true := by decide +kernel
set_option maxRecDepth 100000 in
theorem itab_K_15_12_8 : itabK9 15 12 8 = true := by decide +kernel
set_option maxRecDepth 100000 in
theorem itab_K_15_13_9 : itabK9 15 13 9 = true := by decide +kernel
end Go.Proofs.YtbehooekcpfgcaaGreatDoor
