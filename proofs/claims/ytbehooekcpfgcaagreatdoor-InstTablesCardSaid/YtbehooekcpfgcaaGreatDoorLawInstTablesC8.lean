/-
  InstTables: cases, run (8).
-/
import Derived.Test.YtbehooekcpfgcaaGreatDoorInstBase
namespace Go.Proofs.YtbehooekcpfgcaaGreatDoor
open Go Vx

noncomputable def itabK8 (s x y : Nat) : Bool := runM 4 [] [.and 0 15 s, .and 1 15 x, .and 2 15 y] 3 [.int .i64 (.var 0), .int .i64 (.var 1), .int .i64 (.var 2)]
noncomputable def itabA8 (s a b c d : Nat) : Bool := runM 4 [⟨1, 15, a, b⟩, ⟨2, 15, c, d⟩] [.and 0 15 s] 3 [.int .i64 (.var 0), .int .i64 (.var 1), .int .i64 (.var 2)]
set_option maxRecDepth 100000 in
theorem itab_A_2_1_15_0_0 : itabA8 2 1 15 0 0 = true := by decide +kernel
set_option maxRecDepth 100000 in
theorem itab_A_6_5_15_1_15 : itabA8 6 5 15 1 15 = true := by decide +kernel
set_option maxRecDepth 100000 in
theorem itab_A_10_9_15_1_15 : itabA8 10 9 15 1 15 = true := by decide +kernel
set_option maxRecDepth 100000 in
theorem itab_A_14_13_15_1_15 : itabA8 14 13 15 1 15 = true := by decide +kernel
set_option maxRecDepth 100000 in
theorem itab_K_4_0_1 : itabK8 4 0 1 = true := by decide +kernel
set_option maxRecDepth 100000 in
theorem itab_K_5_1_0 : itabK8 5 1 0 = true := by decide +kernel
set_option maxRecDepth 100000 in
theorem itab_K_6_0_1 : itabK8 6 0 1 = true := by decide +kernel
set_option maxRecDepth 100000 in
theorem itab_K_6_2_5 : itabK8 6 2 5 = true := by decide +kernel
set_option maxRecDepth 100000 in
theorem itab_K_7_0_3 : itabK8 7 0 3 = true := by decide +kernel
set_option maxRecDepth 100000 in
theorem itab_K_7_2_5 : itabK8 7 2 5 = true := by decide +kernel
set_option maxRecDepth 100000 in
theorem itab_K_7_5_0 : itabK8 7 5 0 = true := by decide +kernel
set_option maxRecDepth 100000 in
theorem itab_K_8_1_1 : itabK8 8 1 1 = true := by decide +kernel
set_option maxRecDepth 100000 in
theorem itab_K_8_3_1 : itabK8 8 3 1 = true := by decide +kernel
set_option maxRecDepth 100000 in
theorem itab_K_8_5_1 : itabK8 8 5 1 = true := by decide +kernel
set_option maxRecDepth 100000 in
theorem itab_K_9_0_1 : itabK8 9 0 1 = true := by decide +kernel
set_option maxRecDepth 100000 in
theorem itab_K_9_1_8 : itabK8 9 1 8 = true := by decide +kernel
set_option maxRecDepth 100000 in
theorem itab_K_9_3_6 : itabK8 9 3 6 = true := by decide +kernel
set_option maxRecDepth 100000 in
theorem itab_K_9_5_4 : itabK8 9 5 4 = true := by decide +kernel
set_option maxRecDepth 100000 in
theorem itab_K_9_7_2 : itabK8 9 7 2 = true := by decide +kernel
set_option maxRecDepth 100000 in
theorem itab_K_10_0_9 : itabK8 10 0 9 = true := by decide +kernel
set_option maxRecDepth 100000 in
theorem itab_K_10_2_5 : itabK8 10 2 5 = true := by decide +kernel
set_option maxRecDepth 100000 in
theorem itab_K_10_4_1 : itabK8 10 4 1 = true := by decide +kernel
set_option maxRecDepth 100000 in
theorem itab_K_10_5_7 : itabK8 10 5 7 = true := by decide +kernel
set_option maxRecDepth 100000 in
theorem itab_K_10_7_3 : itabK8 10 7 3 = true := by decide +kernel
set_option maxRecDepth 100000 in
theorem itab_K_10_8_9 : itabK8 10 8 9 = true := by decide +kernel
set_option maxRecDepth 100000 in
theorem itab_K_11_1_4 : itabK8 11 1 4 = true := by decide +kernel
set_option maxRecDepth 100000 in
theorem itab_K_11_2_9 : itabK8 11 2 9 = true := by decide +kernel
set_option maxRecDepth 100000 in
theorem itab_K_11_4_3 : itabK8 11 4 3 = true := by decide +kernel
set_option maxRecDepth 100000 in
theorem itab_K_11_5_8 : itabK8 11 5 8 = true := by decide +kernel
set_option maxRecDepth 100000 in
theorem itab_K_11_7_2 : itabK8 11 7 2 = true := by decide +kernel
set_option maxRecDepth 100000 in
theorem itab_K_11_8_7 : itabK8 11 8 7 = true := by decide +kernel
set_option maxRecDepth 100000 in
theorem itab_K_12_0_1 : itabK8 12 0 1 = true := by decide +kernel
set_option maxRecDepth 100000 in
theorem itab_K_12_1_5 : itabK8 12 1 5 = true := by decide +kernel
set_option maxRecDepth 100000 in
theorem itab_K_12_2_9 : itabK8 12 2 9 = true := by decide +kernel
set_option maxRecDepth 100000 in
theorem itab_K_12_4_1 : itabK8 12 4 1 = true := by decide +kernel
set_option maxRecDepth 100000 in
theorem itab_K_12_5_5 : itabK8 12 5 5 = true := by decide +kernel
set_option maxRecDepth 100000 in
theorem itab_K_12_6_9 : itabK8 12 6 9 = true := by decide +kernel
set_option maxRecDepth 100000 in
theorem itab_K_12_8_1 : itabK8 12 8 1 = true := by decide +kernel
set_option maxRecDepth 100000 in
theorem itab_K_12_9_5 : itabK8 12 9 5 = true := by decide +kernel
set_option maxRecDepth 100000 in
theorem itab_K_12_10_9 : itabK8 12 10 9 = true := by decide +kernel
set_option maxRecDepth 100000 in
theorem itab_K_13_1_0 : itabK8 13 1 0 = true := by decide +kernel
set_option maxRecDepth 100000 in
theorem itab_K_13_2_3 : itabK8 13 2 3 = true := by decide +kernel
set_option maxRecDepth 100000 in
theorem itab_K_13_3_6 : itabK8 13 3 6 = true := by decide +kernel
set_option maxRecDepth 100000 in
theorem itab_K_13_4_9 : itabK8 13 4 9 = true := by decide +kernel
set_option maxRecDepth 100000 in
theorem itab_K_13_5_12 : itabK8 13 5 12 = true := by decide +kernel
set_option maxRecDepth 100000 in
theorem itab_K_13_7_2 : itabK8 13 7 2 = true := by decide +kernel
set_option maxRecDepth 100000 in
theorem itab_K_13_8_5 : itabK8 13 8 5 = true := by decide +kernel
set_option maxRecDepth 100000 in
theorem itab_K_13_9_8 : itabK8 13 9 8 = true := by decide +kernel
set_option maxRecDepth 100000 in
theorem itab_K_13_10_11 : itabK8 13 10 11 = true := by decide +kernel
set_option maxRecDepth 100000 in
theorem itab_K_14_0_1 : itabK8 14 0 1 = true := by decide +kernel
set_option maxRecDepth 100000 in
theorem itab_K_14_1_3 : itabK8 14 1 3 = true := by decide +kernel
set_option maxRecDepth 100000 in
theorem itab_K_14_2_5 : itabK8 14 2 5 = true := by decide +kernel
set_option maxRecDepth 100000 in
theorem itab_K_14_3_7 : itabK8 14 3 7 = true := by decide +kernel
set_option maxRecDepth 100000 in
theorem itab_K_14_4_9 : itabK8 14 4 9 = true := by decide +kernel
set_option maxRecDepth 100000 in
theorem itab_K_14_5_11 : itabK8 14 5 11 = true := by decide +kernel
set_option maxRecDepth 100000 in
theorem itab_K_14_6_13 : itabK8 14 6 13 = true := by decide +kernel
set_option maxRecDepth 100000 in
theorem itab_K_14_8_1 : itabK8 14 8 1 = true := by decide +kernel
set_option maxRecDepth 100000 in
theorem itab_K_14_9_3 : itabK8 14 9 3 = true := by decide +kernel
set_option maxRecDepth 100000 in
theorem itab_K_14_10_5 : itabK8 14 10 5 = true := by decide +kernel
set_option maxRecDepth 100000 in
theorem itab_K_14_11_7 : itabK8 14 11 7 = true := by decide +kernel
set_option maxRecDepth 100000 in
theorem itab_K_14_12_9 : itabK8 14 12 9 = true := by decide +kernel
set_option maxRecDepth 100000 in
theorem itab_K_15_0_11 : itabK8 15 0 11 = true := by decide +kernel
set_option maxRecDepth 100000 in
theorem itab_K_15_1_12 : itabK8 15 1 12 = true := by decide +kernel
set_option maxRecDepth 100000 in
theorem itab_K_15_2_13 : itabK8 15 2 13 = true := by decide +kernel
set_option maxRecDepth 100000 in
theorem itab_K_15_3_14 : itabK8 15 3 14 = true := by decide +kernel
set_option maxRecDepth 100000 in
theorem itab_K_15_5_0 : itabK8 15 5 0 = true := by decide +kernel
set_option maxRecDepth 100000 in
theorem itab_K_15_6_1 : itabK8 15 6 1 = true := by decide +kernel
set_option maxRecDepth 100000 in
theorem itab_K_15_7_2 : itabK8 15 7 2 = true := by decide +kernel
set_option maxRecDepth 100000 in
theorem itab_K_15_8_3 : itabK8 15 8 3 = true := by decide +kernel
set_option maxRecDepth 100000 in
theorem itab_K_15_9_4 : itabK8 15 9 4 = true := by decide +kernel
set_option maxRecDepth 100000 in
theorem itab_K_15_10_5 : itabK8 15 10 5 = true := by decide +kernel
set_option maxRecDepth 100000 in
theorem itab_K_15_11_6 : itabK8 15 11 6 = true := by decide +kernel
set_option maxRecDepth 100000 in
theorem itab_K_15_12_7 : itabK8 15 12 7 = true := by decide +kernel
set_option maxRecDepth 100000 in
theorem itab_K_15_13_8 : itabK8 15 13 8 = true := by decide +kernel
end Go.Proofs.YtbehooekcpfgcaaGreatDoor
