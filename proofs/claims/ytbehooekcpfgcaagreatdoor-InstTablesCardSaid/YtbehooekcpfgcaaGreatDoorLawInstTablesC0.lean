/-
  InstTables: cases, run (0).
-/
import Derived.Test.YtbehooekcpfgcaaGreatDoorInstBase
namespace Go.Proofs.YtbehooekcpfgcaaGreatDoor
open Go Vx

noncomputable def itabK0 (s x y : Nat) : Bool := runM 4 [] [.and 0 15 s, .and 1 15 x, .and 2 15 y] 3 [.int .i64 (.var 0), .int .i64 (.var 1), .int .i64 (.var 2)]
noncomputable def itabA0 (s a b c d : Nat) : Bool := runM 4 [⟨1, 15, a, b⟩, ⟨2, 15, c, d⟩] [.and 0 15 s] 3 [.int .i64 (.var 0), .int .i64 (.var 1), .int .i64 (.var 2)]
set_option maxRecDepth 100000 in
theorem itab_A_0_0_0_0_0 : itabA0 0 0 0 0 0 = true := by decide +kernel
set_option maxRecDepth 100000 in
theorem itab_A_4_3_15_1_15 : itabA0 4 3 15 1 15 = true := by decide +kernel
set_option maxRecDepth 100000 in
theorem itab_A_8_7_15_1_15 : itabA0 8 7 15 1 15 = true := by decide +kernel
set_option maxRecDepth 100000 in
theorem itab_A_12_11_15_1_15 : itabA0 12 11 15 1 15 = true := by decide +kernel
set_option maxRecDepth 100000 in
theorem itab_K_2_0_1 : itabK0 2 0 1 = true := by decide +kernel
set_option maxRecDepth 100000 in
theorem itab_K_4_2_1 : itabK0 4 2 1 = true := by decide +kernel
set_option maxRecDepth 100000 in
theorem itab_K_5_2_3 : itabK0 5 2 3 = true := by decide +kernel
set_option maxRecDepth 100000 in
theorem itab_K_6_1_3 : itabK0 6 1 3 = true := by decide +kernel
set_option maxRecDepth 100000 in
theorem itab_K_6_4_1 : itabK0 6 4 1 = true := by decide +kernel
set_option maxRecDepth 100000 in
theorem itab_K_7_1_4 : itabK0 7 1 4 = true := by decide +kernel
set_option maxRecDepth 100000 in
theorem itab_K_7_3_6 : itabK0 7 3 6 = true := by decide +kernel
set_option maxRecDepth 100000 in
theorem itab_K_8_0_1 : itabK0 8 0 1 = true := by decide +kernel
set_option maxRecDepth 100000 in
theorem itab_K_8_2_1 : itabK0 8 2 1 = true := by decide +kernel
set_option maxRecDepth 100000 in
theorem itab_K_8_4_1 : itabK0 8 4 1 = true := by decide +kernel
set_option maxRecDepth 100000 in
theorem itab_K_8_6_1 : itabK0 8 6 1 = true := by decide +kernel
set_option maxRecDepth 100000 in
theorem itab_K_9_1_0 : itabK0 9 1 0 = true := by decide +kernel
set_option maxRecDepth 100000 in
theorem itab_K_9_2_7 : itabK0 9 2 7 = true := by decide +kernel
set_option maxRecDepth 100000 in
theorem itab_K_9_4_5 : itabK0 9 4 5 = true := by decide +kernel
set_option maxRecDepth 100000 in
theorem itab_K_9_6_3 : itabK0 9 6 3 = true := by decide +kernel
set_option maxRecDepth 100000 in
theorem itab_K_10_0_1 : itabK0 10 0 1 = true := by decide +kernel
set_option maxRecDepth 100000 in
theorem itab_K_10_1_7 : itabK0 10 1 7 = true := by decide +kernel
set_option maxRecDepth 100000 in
theorem itab_K_10_3_3 : itabK0 10 3 3 = true := by decide +kernel
set_option maxRecDepth 100000 in
theorem itab_K_10_4_9 : itabK0 10 4 9 = true := by decide +kernel
set_option maxRecDepth 100000 in
theorem itab_K_10_6_5 : itabK0 10 6 5 = true := by decide +kernel
set_option maxRecDepth 100000 in
theorem itab_K_10_8_1 : itabK0 10 8 1 = true := by decide +kernel
set_option maxRecDepth 100000 in
theorem itab_K_11_0_7 : itabK0 11 0 7 = true := by decide +kernel
set_option maxRecDepth 100000 in
theorem itab_K_11_2_1 : itabK0 11 2 1 = true := by decide +kernel
set_option maxRecDepth 100000 in
theorem itab_K_11_3_6 : itabK0 11 3 6 = true := by decide +kernel
set_option maxRecDepth 100000 in
theorem itab_K_11_5_0 : itabK0 11 5 0 = true := by decide +kernel
set_option maxRecDepth 100000 in
theorem itab_K_11_6_5 : itabK0 11 6 5 = true := by decide +kernel
set_option maxRecDepth 100000 in
theorem itab_K_11_7_10 : itabK0 11 7 10 = true := by decide +kernel
set_option maxRecDepth 100000 in
theorem itab_K_11_9_4 : itabK0 11 9 4 = true := by decide +kernel
set_option maxRecDepth 100000 in
theorem itab_K_12_0_9 : itabK0 12 0 9 = true := by decide +kernel
set_option maxRecDepth 100000 in
theorem itab_K_12_2_1 : itabK0 12 2 1 = true := by decide +kernel
set_option maxRecDepth 100000 in
theorem itab_K_12_3_5 : itabK0 12 3 5 = true := by decide +kernel
set_option maxRecDepth 100000 in
theorem itab_K_12_4_9 : itabK0 12 4 9 = true := by decide +kernel
set_option maxRecDepth 100000 in
theorem itab_K_12_6_1 : itabK0 12 6 1 = true := by decide +kernel
set_option maxRecDepth 100000 in
theorem itab_K_12_7_5 : itabK0 12 7 5 = true := by decide +kernel
set_option maxRecDepth 100000 in
theorem itab_K_12_8_9 : itabK0 12 8 9 = true := by decide +kernel
set_option maxRecDepth 100000 in
theorem itab_K_12_10_1 : itabK0 12 10 1 = true := by decide +kernel
set_option maxRecDepth 100000 in
theorem itab_K_13_0_5 : itabK0 13 0 5 = true := by decide +kernel
set_option maxRecDepth 100000 in
theorem itab_K_13_1_8 : itabK0 13 1 8 = true := by decide +kernel
set_option maxRecDepth 100000 in
theorem itab_K_13_2_11 : itabK0 13 2 11 = true := by decide +kernel
set_option maxRecDepth 100000 in
theorem itab_K_13_4_1 : itabK0 13 4 1 = true := by decide +kernel
set_option maxRecDepth 100000 in
theorem itab_K_13_5_4 : itabK0 13 5 4 = true := by decide +kernel
set_option maxRecDepth 100000 in
theorem itab_K_13_6_7 : itabK0 13 6 7 = true := by decide +kernel
set_option maxRecDepth 100000 in
theorem itab_K_13_7_10 : itabK0 13 7 10 = true := by decide +kernel
set_option maxRecDepth 100000 in
theorem itab_K_13_9_0 : itabK0 13 9 0 = true := by decide +kernel
set_option maxRecDepth 100000 in
theorem itab_K_13_10_3 : itabK0 13 10 3 = true := by decide +kernel
set_option maxRecDepth 100000 in
theorem itab_K_13_11_6 : itabK0 13 11 6 = true := by decide +kernel
set_option maxRecDepth 100000 in
theorem itab_K_14_0_9 : itabK0 14 0 9 = true := by decide +kernel
set_option maxRecDepth 100000 in
theorem itab_K_14_1_11 : itabK0 14 1 11 = true := by decide +kernel
set_option maxRecDepth 100000 in
theorem itab_K_14_2_13 : itabK0 14 2 13 = true := by decide +kernel
set_option maxRecDepth 100000 in
theorem itab_K_14_4_1 : itabK0 14 4 1 = true := by decide +kernel
set_option maxRecDepth 100000 in
theorem itab_K_14_5_3 : itabK0 14 5 3 = true := by decide +kernel
set_option maxRecDepth 100000 in
theorem itab_K_14_6_5 : itabK0 14 6 5 = true := by decide +kernel
set_option maxRecDepth 100000 in
theorem itab_K_14_7_7 : itabK0 14 7 7 = true := by decide +kernel
set_option maxRecDepth 100000 in
theorem itab_K_14_8_9 : itabK0 14 8 9 = true := by decide +kernel
set_option maxRecDepth 100000 in
theorem itab_K_14_9_11 : itabK0 14 9 11 = true := by decide +kernel
set_option maxRecDepth 100000 in
theorem itab_K_14_10_13 : itabK0 14 10 13 = true := by decide +kernel
set_option maxRecDepth 100000 in
theorem itab_K_14_12_1 : itabK0 14 12 1 = true := by decide +kernel
set_option maxRecDepth 100000 in
theorem itab_K_15_0_3 : itabK0 15 0 3 = true := by decide +kernel
set_option maxRecDepth 100000 in
theorem itab_K_15_1_4 : itabK0 15 1 4 = true := by decide +kernel
set_option maxRecDepth 100000 in
theorem itab_K_15_2_5 : itabK0 15 2 5 = true := by decide +kernel
set_option maxRecDepth 100000 in
theorem itab_K_15_3_6 : itabK0 15 3 6 = true := by decide +kernel
set_option maxRecDepth 100000 in
theorem itab_K_15_4_7 : itabK0 15 4 7 = true := by decide +kernel
set_option maxRecDepth 100000 in
theorem itab_K_15_5_8 : itabK0 15 5 8 = true := by decide +kernel
set_option maxRecDepth 100000 in
theorem itab_K_15_6_9 : itabK0 15 6 9 = true := by decide +kernel
set_option maxRecDepth 100000 in
theorem itab_K_15_7_10 : itabK0 15 7 10 = true := by decide +kernel
set_option maxRecDepth 100000 in
theorem itab_K_15_8_11 : itabK0 15 8 11 = true := by decide +kernel
set_option maxRecDepth 100000 in
theorem itab_K_15_9_12 : itabK0 15 9 12 = true := by decide +kernel
set_option maxRecDepth 100000 in
theorem itab_K_15_10_13 : itabK0 15 10 13 = true := by decide +kernel
set_option maxRecDepth 100000 in
theorem itab_K_15_11_14 : itabK0 15 11 14 = true := by decide +kernel
set_option maxRecDepth 100000 in
theorem itab_K_15_13_0 : itabK0 15 13 0 = true := by decide +kernel
end Go.Proofs.YtbehooekcpfgcaaGreatDoor
