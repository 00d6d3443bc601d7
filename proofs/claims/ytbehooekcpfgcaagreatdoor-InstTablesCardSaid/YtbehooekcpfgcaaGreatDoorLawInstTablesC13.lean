/-
  InstTables: cases, run (13).
-/
import Derived.Test.YtbehooekcpfgcaaGreatDoorInstBase
namespace Go.Proofs.YtbehooekcpfgcaaGreatDoor
open Go Vx

noncomputable def itabK13 (s x y : Nat) : Bool := runM 4 [] [.and 0 15 s, .and 1 15 x, .and 2 15 y] 3 [.int .i64 (.var 0), .int .i64 (.var 1), .int .i64 (.var 2)]
noncomputable def itabA13 (s a b c d : Nat) : Bool := runM 4 [⟨1, 15, a, b⟩, ⟨2, 15, c, d⟩] [.and 0 15 s] 3 [.int .i64 (.var 0), .int .i64 (.var 1), .int .i64 (.var 2)]
set_option maxRecDepth 100000 in
theorem itab_A_3_0_0_3_15 : itabA13 3 0 0 3 15 = true := by decide +kernel
set_option maxRecDepth 100000 in
theorem itab_A_7_0_0_7_15 : itabA13 7 0 0 7 15 = true := by decide +kernel
set_option maxRecDepth 100000 in
theorem itab_A_11_0_0_11_15 : itabA13 11 0 0 11 15 = true := by decide +kernel
set_option maxRecDepth 100000 in
theorem itab_A_15_0_0_15_15 : itabA13 15 0 0 15 15 = true := by decide +kernel
set_option maxRecDepth 100000 in
theorem itab_K_4_1_2 : itabK13 4 1 2 = true := by decide +kernel
set_option maxRecDepth 100000 in
theorem itab_K_5_2_0 : itabK13 5 2 0 = true := by decide +kernel
set_option maxRecDepth 100000 in
theorem itab_K_6_1_0 : itabK13 6 1 0 = true := by decide +kernel
set_option maxRecDepth 100000 in
theorem itab_K_6_3_4 : itabK13 6 3 4 = true := by decide +kernel
set_option maxRecDepth 100000 in
theorem itab_K_7_1_1 : itabK13 7 1 1 = true := by decide +kernel
set_option maxRecDepth 100000 in
theorem itab_K_7_3_3 : itabK13 7 3 3 = true := by decide +kernel
set_option maxRecDepth 100000 in
theorem itab_K_7_5_5 : itabK13 7 5 5 = true := by decide +kernel
set_option maxRecDepth 100000 in
theorem itab_K_8_1_6 : itabK13 8 1 6 = true := by decide +kernel
set_option maxRecDepth 100000 in
theorem itab_K_8_3_6 : itabK13 8 3 6 = true := by decide +kernel
set_option maxRecDepth 100000 in
theorem itab_K_8_5_6 : itabK13 8 5 6 = true := by decide +kernel
set_option maxRecDepth 100000 in
theorem itab_K_9_0_6 : itabK13 9 0 6 = true := by decide +kernel
set_option maxRecDepth 100000 in
theorem itab_K_9_2_4 : itabK13 9 2 4 = true := by decide +kernel
set_option maxRecDepth 100000 in
theorem itab_K_9_4_2 : itabK13 9 4 2 = true := by decide +kernel
set_option maxRecDepth 100000 in
theorem itab_K_9_6_0 : itabK13 9 6 0 = true := by decide +kernel
set_option maxRecDepth 100000 in
theorem itab_K_9_7_7 : itabK13 9 7 7 = true := by decide +kernel
set_option maxRecDepth 100000 in
theorem itab_K_10_1_4 : itabK13 10 1 4 = true := by decide +kernel
set_option maxRecDepth 100000 in
theorem itab_K_10_3_0 : itabK13 10 3 0 = true := by decide +kernel
set_option maxRecDepth 100000 in
theorem itab_K_10_4_6 : itabK13 10 4 6 = true := by decide +kernel
set_option maxRecDepth 100000 in
theorem itab_K_10_6_2 : itabK13 10 6 2 = true := by decide +kernel
set_option maxRecDepth 100000 in
theorem itab_K_10_7_8 : itabK13 10 7 8 = true := by decide +kernel
set_option maxRecDepth 100000 in
theorem itab_K_11_0_4 : itabK13 11 0 4 = true := by decide +kernel
set_option maxRecDepth 100000 in
theorem itab_K_11_1_9 : itabK13 11 1 9 = true := by decide +kernel
set_option maxRecDepth 100000 in
theorem itab_K_11_3_3 : itabK13 11 3 3 = true := by decide +kernel
set_option maxRecDepth 100000 in
theorem itab_K_11_4_8 : itabK13 11 4 8 = true := by decide +kernel
set_option maxRecDepth 100000 in
theorem itab_K_11_6_2 : itabK13 11 6 2 = true := by decide +kernel
set_option maxRecDepth 100000 in
theorem itab_K_11_7_7 : itabK13 11 7 7 = true := by decide +kernel
set_option maxRecDepth 100000 in
theorem itab_K_11_9_1 : itabK13 11 9 1 = true := by decide +kernel
set_option maxRecDepth 100000 in
theorem itab_K_12_0_6 : itabK13 12 0 6 = true := by decide +kernel
set_option maxRecDepth 100000 in
theorem itab_K_12_1_10 : itabK13 12 1 10 = true := by decide +kernel
set_option maxRecDepth 100000 in
theorem itab_K_12_3_2 : itabK13 12 3 2 = true := by decide +kernel
set_option maxRecDepth 100000 in
theorem itab_K_12_4_6 : itabK13 12 4 6 = true := by decide +kernel
set_option maxRecDepth 100000 in
theorem itab_K_12_5_10 : itabK13 12 5 10 = true := by decide +kernel
set_option maxRecDepth 100000 in
theorem itab_K_12_7_2 : itabK13 12 7 2 = true := by decide +kernel
set_option maxRecDepth 100000 in
theorem itab_K_12_8_6 : itabK13 12 8 6 = true := by decide +kernel
set_option maxRecDepth 100000 in
theorem itab_K_12_9_10 : itabK13 12 9 10 = true := by decide +kernel
set_option maxRecDepth 100000 in
theorem itab_K_13_0_2 : itabK13 13 0 2 = true := by decide +kernel
set_option maxRecDepth 100000 in
theorem itab_K_13_1_5 : itabK13 13 1 5 = true := by decide +kernel
set_option maxRecDepth 100000 in
theorem itab_K_13_2_8 : itabK13 13 2 8 = true := by decide +kernel
set_option maxRecDepth 100000 in
theorem itab_K_13_3_11 : itabK13 13 3 11 = true := by decide +kernel
set_option maxRecDepth 100000 in
theorem itab_K_13_5_1 : itabK13 13 5 1 = true := by decide +kernel
set_option maxRecDepth 100000 in
theorem itab_K_13_6_4 : itabK13 13 6 4 = true := by decide +kernel
set_option maxRecDepth 100000 in
theorem itab_K_13_7_7 : itabK13 13 7 7 = true := by decide +kernel
set_option maxRecDepth 100000 in
theorem itab_K_13_8_10 : itabK13 13 8 10 = true := by decide +kernel
set_option maxRecDepth 100000 in
theorem itab_K_13_10_0 : itabK13 13 10 0 = true := by decide +kernel
set_option maxRecDepth 100000 in
theorem itab_K_13_11_3 : itabK13 13 11 3 = true := by decide +kernel
set_option maxRecDepth 100000 in
theorem itab_K_14_0_6 : itabK13 14 0 6 = true := by decide +kernel
set_option maxRecDepth 100000 in
theorem itab_K_14_1_8 : itabK13 14 1 8 = true := by decide +kernel
set_option maxRecDepth 100000 in
theorem itab_K_14_2_10 : itabK13 14 2 10 = true := by decide +kernel
set_option maxRecDepth 100000 in
theorem itab_K_14_3_12 : itabK13 14 3 12 = true := by decide +kernel
set_option maxRecDepth 100000 in
theorem itab_K_14_5_0 : itabK13 14 5 0 = true := by decide +kernel
set_option maxRecDepth 100000 in
theorem itab_K_14_6_2 : itabK13 14 6 2 = true := by decide +kernel
set_option maxRecDepth 100000 in
theorem itab_K_14_7_4 : itabK13 14 7 4 = true := by decide +kernel
set_option maxRecDepth 100000 in
theorem itab_K_14_8_6 : itabK13 14 8 6 = true := by decide +kernel
set_option maxRecDepth 100000 in
theorem itab_K_14_9_8 : itabK13 14 9 8 = true := by decide +kernel
set_option maxRecDepth 100000 in
theorem itab_K_14_10_10 : itabK13 14 10 10 = true := by decide +kernel
set_option maxRecDepth 100000 in
theorem itab_K_14_11_12 : itabK13 14 11 12 = true := by decide +kernel
set_option maxRecDepth 100000 in
theorem itab_K_15_0_0 : itabK13 15 0 0 = true := by decide +kernel
set_option maxRecDepth 100000 in
theorem itab_K_15_1_1 : itabK13 15 1 1 = true := by decide +kernel
set_option maxRecDepth 100000 in
theorem itab_K_15_2_2 : itabK13 15 2 2 = true := by decide +kernel
set_option maxRecDepth 100000 in
theorem itab_K_15_3_3 : itabK13 15 3 3 = true := by decide +kernel
set_option maxRecDepth 100000 in
theorem itab_K_15_4_4 : itabK13 15 4 4 = true := by decide +kernel
set_option maxRecDepth 100000 in
theorem itab_K_15_5_5 : itabK13 15 5 5 = true := by decide +kernel
set_option maxRecDepth 100000 in
theorem itab_K_15_6_6 : itabK13 15 6 6 = true := by decide +kernel
set_option maxRecDepth 100000 in
theorem itab_K_15_7_7 : itabK13 15 7 7 = true := by decide +kernel
set_option maxRecDepth 100000 in
theorem itab_K_15_8_8 : itabK13 15 8 8 = true := by decide +kernel
set_option maxRecDepth 100000 in
theorem itab_K_15_9_9 : itabK13 15 9 9 = true := by decide +kernel
set_option maxRecDepth 100000 in
theorem itab_K_15_10_10 : itabK13 15 10 10 = true := by decide +kernel
set_option maxRecDepth 100000 in
theorem itab_K_15_11_11 : itabK13 15 11 11 = true := by decide +kernel
set_option maxRecDepth 100000 in
theorem itab_K_15_12_12 : itabK13 15 12 12 = true := by decide +kernel
set_option maxRecDepth 100000 in
theorem itab_K_15_13_13 : itabK13 15 13 13 = true := by decide +kernel
end Go.Proofs.YtbehooekcpfgcaaGreatDoor
