/-
  InstTables: cases, run (7).
-/
import Derived.Test.YtbehooekcpfgcaaGreatDoorInstBase
namespace Go.Proofs.YtbehooekcpfgcaaGreatDoor
open Go Vx

noncomputable def itabK7 (s x y : Nat) : Bool := runM 4 [] [.and 0 15 s, .and 1 15 x, .and 2 15 y] 3 [.int .i64 (.var 0), .int .i64 (.var 1), .int .i64 (.var 2)]
noncomputable def itabA7 (s a b c d : Nat) : Bool := runM 4 [⟨1, 15, a, b⟩, ⟨2, 15, c, d⟩] [.and 0 15 s] 3 [.int .i64 (.var 0), .int .i64 (.var 1), .int .i64 (.var 2)]
set_option maxRecDepth 100000 in
theorem itab_A_1_1_15_1_15 : itabA7 1 1 15 1 15 = true := by decide +kernel
set_option maxRecDepth 100000 in
theorem itab_A_6_5_15_0_0 : itabA7 6 5 15 0 0 = true := by decide +kernel
set_option maxRecDepth 100000 in
theorem itab_A_10_9_15_0_0 : itabA7 10 9 15 0 0 = true := by decide +kernel
set_option maxRecDepth 100000 in
theorem itab_A_14_13_15_0_0 : itabA7 14 13 15 0 0 = true := by decide +kernel
set_option maxRecDepth 100000 in
theorem itab_K_4_0_0 : itabK7 4 0 0 = true := by decide +kernel
set_option maxRecDepth 100000 in
theorem itab_K_5_0_4 : itabK7 5 0 4 = true := by decide +kernel
set_option maxRecDepth 100000 in
theorem itab_K_6_0_0 : itabK7 6 0 0 = true := by decide +kernel
set_option maxRecDepth 100000 in
theorem itab_K_6_2_4 : itabK7 6 2 4 = true := by decide +kernel
set_option maxRecDepth 100000 in
theorem itab_K_7_0_2 : itabK7 7 0 2 = true := by decide +kernel
set_option maxRecDepth 100000 in
theorem itab_K_7_2_4 : itabK7 7 2 4 = true := by decide +kernel
set_option maxRecDepth 100000 in
theorem itab_K_7_4_6 : itabK7 7 4 6 = true := by decide +kernel
set_option maxRecDepth 100000 in
theorem itab_K_8_1_0 : itabK7 8 1 0 = true := by decide +kernel
set_option maxRecDepth 100000 in
theorem itab_K_8_3_0 : itabK7 8 3 0 = true := by decide +kernel
set_option maxRecDepth 100000 in
theorem itab_K_8_5_0 : itabK7 8 5 0 = true := by decide +kernel
set_option maxRecDepth 100000 in
theorem itab_K_9_0_0 : itabK7 9 0 0 = true := by decide +kernel
set_option maxRecDepth 100000 in
theorem itab_K_9_1_7 : itabK7 9 1 7 = true := by decide +kernel
set_option maxRecDepth 100000 in
theorem itab_K_9_3_5 : itabK7 9 3 5 = true := by decide +kernel
set_option maxRecDepth 100000 in
theorem itab_K_9_5_3 : itabK7 9 5 3 = true := by decide +kernel
set_option maxRecDepth 100000 in
theorem itab_K_9_7_1 : itabK7 9 7 1 = true := by decide +kernel
set_option maxRecDepth 100000 in
theorem itab_K_10_0_8 : itabK7 10 0 8 = true := by decide +kernel
set_option maxRecDepth 100000 in
theorem itab_K_10_2_4 : itabK7 10 2 4 = true := by decide +kernel
set_option maxRecDepth 100000 in
theorem itab_K_10_4_0 : itabK7 10 4 0 = true := by decide +kernel
set_option maxRecDepth 100000 in
theorem itab_K_10_5_6 : itabK7 10 5 6 = true := by decide +kernel
set_option maxRecDepth 100000 in
theorem itab_K_10_7_2 : itabK7 10 7 2 = true := by decide +kernel
set_option maxRecDepth 100000 in
theorem itab_K_10_8_8 : itabK7 10 8 8 = true := by decide +kernel
set_option maxRecDepth 100000 in
theorem itab_K_11_1_3 : itabK7 11 1 3 = true := by decide +kernel
set_option maxRecDepth 100000 in
theorem itab_K_11_2_8 : itabK7 11 2 8 = true := by decide +kernel
set_option maxRecDepth 100000 in
theorem itab_K_11_4_2 : itabK7 11 4 2 = true := by decide +kernel
set_option maxRecDepth 100000 in
theorem itab_K_11_5_7 : itabK7 11 5 7 = true := by decide +kernel
set_option maxRecDepth 100000 in
theorem itab_K_11_7_1 : itabK7 11 7 1 = true := by decide +kernel
set_option maxRecDepth 100000 in
theorem itab_K_11_8_6 : itabK7 11 8 6 = true := by decide +kernel
set_option maxRecDepth 100000 in
theorem itab_K_12_0_0 : itabK7 12 0 0 = true := by decide +kernel
set_option maxRecDepth 100000 in
theorem itab_K_12_1_4 : itabK7 12 1 4 = true := by decide +kernel
set_option maxRecDepth 100000 in
theorem itab_K_12_2_8 : itabK7 12 2 8 = true := by decide +kernel
set_option maxRecDepth 100000 in
theorem itab_K_12_4_0 : itabK7 12 4 0 = true := by decide +kernel
set_option maxRecDepth 100000 in
theorem itab_K_12_5_4 : itabK7 12 5 4 = true := by decide +kernel
set_option maxRecDepth 100000 in
theorem itab_K_12_6_8 : itabK7 12 6 8 = true := by decide +kernel
set_option maxRecDepth 100000 in
theorem itab_K_12_8_0 : itabK7 12 8 0 = true := by decide +kernel
set_option maxRecDepth 100000 in
theorem itab_K_12_9_4 : itabK7 12 9 4 = true := by decide +kernel
set_option maxRecDepth 100000 in
theorem itab_K_12_10_8 : itabK7 12 10 8 = true := by decide +kernel
set_option maxRecDepth 100000 in
theorem itab_K_13_0_12 : itabK7 13 0 12 = true := by decide +kernel
set_option maxRecDepth 100000 in
theorem itab_K_13_2_2 : itabK7 13 2 2 = true := by decide +kernel
set_option maxRecDepth 100000 in
theorem itab_K_13_3_5 : itabK7 13 3 5 = true := by decide +kernel
set_option maxRecDepth 100000 in
theorem itab_K_13_4_8 : itabK7 13 4 8 = true := by decide +kernel
set_option maxRecDepth 100000 in
theorem itab_K_13_5_11 : itabK7 13 5 11 = true := by decide +kernel
set_option maxRecDepth 100000 in
theorem itab_K_13_7_1 : itabK7 13 7 1 = true := by decide +kernel
set_option maxRecDepth 100000 in
theorem itab_K_13_8_4 : itabK7 13 8 4 = true := by decide +kernel
set_option maxRecDepth 100000 in
theorem itab_K_13_9_7 : itabK7 13 9 7 = true := by decide +kernel
set_option maxRecDepth 100000 in
theorem itab_K_13_10_10 : itabK7 13 10 10 = true := by decide +kernel
set_option maxRecDepth 100000 in
theorem itab_K_14_0_0 : itabK7 14 0 0 = true := by decide +kernel
set_option maxRecDepth 100000 in
theorem itab_K_14_1_2 : itabK7 14 1 2 = true := by decide +kernel
set_option maxRecDepth 100000 in
theorem itab_K_14_2_4 : itabK7 14 2 4 = true := by decide +kernel
set_option maxRecDepth 100000 in
theorem itab_K_14_3_6 : itabK7 14 3 6 = true := by decide +kernel
set_option maxRecDepth 100000 in
theorem itab_K_14_4_8 : itabK7 14 4 8 = true := by decide +kernel
set_option maxRecDepth 100000 in
theorem itab_K_14_5_10 : itabK7 14 5 10 = true := by decide +kernel
set_option maxRecDepth 100000 in
theorem itab_K_14_6_12 : itabK7 14 6 12 = true := by decide +kernel
set_option maxRecDepth 100000 in
theorem itab_K_14_8_0 : itabK7 14 8 0 = true := by decide +kernel
set_option maxRecDepth 100000 in
theorem itab_K_14_9_2 : itabK7 14 9 2 = true := by decide +kernel
set_option maxRecDepth 100000 in
theorem itab_K_14_10_4 : itabK7 14 10 4 = true := by decide +kernel
set_option maxRecDepth 100000 in
theorem itab_K_14_11_6 : itabK7 14 11 6 = true := by decide +kernel
set_option maxRecDepth 100000 in
theorem itab_K_14_12_8 : itabK7 14 12 8 = true := by decide +kernel
set_option maxRecDepth 100000 in
theorem itab_K_15_0_10 : itabK7 15 0 10 = true := by decide +kernel
set_option maxRecDepth 100000 in
theorem itab_K_15_1_11 : itabK7 15 1 11 = true := by decide +kernel
set_option maxRecDepth 100000 in
theorem itab_K_15_2_12 : itabK7 15 2 12 = true := by decide +kernel
set_option maxRecDepth 100000 in
theorem itab_K_15_3_13 : itabK7 15 3 13 = true := by decide +kernel
set_option maxRecDepth 100000 in
theorem itab_K_15_4_14 : itabK7 15 4 14 = true := by decide +kernel
set_option maxRecDepth 100000 in
theorem itab_K_15_6_0 : itabK7 15 6 0 = true := by decide +kernel
set_option maxRecDepth 100000 in
theorem itab_K_15_7_1 : itabK7 15 7 1 = true := by decide +kernel
set_option maxRecDepth 100000 in
theorem itab_K_15_8_2 : itabK7 15 8 2 = true := by decide +kernel
set_option maxRecDepth 100000 in
theorem itab_K_15_9_3 : itabK7 15 9 3 = true := by decide +kernel
set_option maxRecDepth 100000 in
theorem itab_K_15_10_4 : itabK7 15 10 4 = true := by decide +kernel
set_option maxRecDepth 100000 in
theorem itab_K_15_11_5 : itabK7 15 11 5 = true := by decide +kernel
set_option maxRecDepth 100000 in
theorem itab_K_15_12_6 : itabK7 15 12 6 = true := by decide +kernel
set_option maxRecDepth 100000 in
theorem itab_K_15_13_7 : itabK7 15 13 7 = true := by decide +kernel
end Go.Proofs.YtbehooekcpfgcaaGreatDoor
