/-
  InstTables: cases, run (6).
-/
import Derived.Test.YtbehooekcpfgcaaGreatDoorInstBase
namespace Go.Proofs.YtbehooekcpfgcaaGreatDoor
open Go Vx

noncomputable def itabK6 (s x y : Nat) : Bool := runM 4 [] [.and 0 15 s, .and 1 15 x, .and 2 15 y] 3 [.int .i64 (.var 0), .int .i64 (.var 1), .int .i64 (.var 2)]
noncomputable def itabA6 (s a b c d : Nat) : Bool := runM 4 [⟨1, 15, a, b⟩, ⟨2, 15, c, d⟩] [.and 0 15 s] 3 [.int .i64 (.var 0), .int .i64 (.var 1), .int .i64 (.var 2)]
set_option maxRecDepth 100000 in
theorem itab_A_1_1_15_0_0 : itabA6 1 1 15 0 0 = true := by decide +kernel
set_option maxRecDepth 100000 in
theorem itab_A_5_1_3_5_15 : itabA6 5 1 3 5 15 = true := by decide +kernel
set_option maxRecDepth 100000 in
theorem itab_A_9_1_7_9_15 : itabA6 9 1 7 9 15 = true := by decide +kernel
set_option maxRecDepth 100000 in
theorem itab_A_13_1_11_13_15 : itabA6 13 1 11 13 15 = true := by decide +kernel
set_option maxRecDepth 100000 in
theorem itab_K_3_1_2 : itabK6 3 1 2 = true := by decide +kernel
set_option maxRecDepth 100000 in
theorem itab_K_5_0_3 : itabK6 5 0 3 = true := by decide +kernel
set_option maxRecDepth 100000 in
theorem itab_K_5_3_4 : itabK6 5 3 4 = true := by decide +kernel
set_option maxRecDepth 100000 in
theorem itab_K_6_2_3 : itabK6 6 2 3 = true := by decide +kernel
set_option maxRecDepth 100000 in
theorem itab_K_7_0_1 : itabK6 7 0 1 = true := by decide +kernel
set_option maxRecDepth 100000 in
theorem itab_K_7_2_3 : itabK6 7 2 3 = true := by decide +kernel
set_option maxRecDepth 100000 in
theorem itab_K_7_4_5 : itabK6 7 4 5 = true := by decide +kernel
set_option maxRecDepth 100000 in
theorem itab_K_8_0_7 : itabK6 8 0 7 = true := by decide +kernel
set_option maxRecDepth 100000 in
theorem itab_K_8_2_7 : itabK6 8 2 7 = true := by decide +kernel
set_option maxRecDepth 100000 in
theorem itab_K_8_4_7 : itabK6 8 4 7 = true := by decide +kernel
set_option maxRecDepth 100000 in
theorem itab_K_8_6_7 : itabK6 8 6 7 = true := by decide +kernel
set_option maxRecDepth 100000 in
theorem itab_K_9_1_6 : itabK6 9 1 6 = true := by decide +kernel
set_option maxRecDepth 100000 in
theorem itab_K_9_3_4 : itabK6 9 3 4 = true := by decide +kernel
set_option maxRecDepth 100000 in
theorem itab_K_9_5_2 : itabK6 9 5 2 = true := by decide +kernel
set_option maxRecDepth 100000 in
theorem itab_K_9_7_0 : itabK6 9 7 0 = true := by decide +kernel
set_option maxRecDepth 100000 in
theorem itab_K_10_0_7 : itabK6 10 0 7 = true := by decide +kernel
set_option maxRecDepth 100000 in
theorem itab_K_10_2_3 : itabK6 10 2 3 = true := by decide +kernel
set_option maxRecDepth 100000 in
theorem itab_K_10_3_9 : itabK6 10 3 9 = true := by decide +kernel
set_option maxRecDepth 100000 in
theorem itab_K_10_5_5 : itabK6 10 5 5 = true := by decide +kernel
set_option maxRecDepth 100000 in
theorem itab_K_10_7_1 : itabK6 10 7 1 = true := by decide +kernel
set_option maxRecDepth 100000 in
theorem itab_K_10_8_7 : itabK6 10 8 7 = true := by decide +kernel
set_option maxRecDepth 100000 in
theorem itab_K_11_1_2 : itabK6 11 1 2 = true := by decide +kernel
set_option maxRecDepth 100000 in
theorem itab_K_11_2_7 : itabK6 11 2 7 = true := by decide +kernel
set_option maxRecDepth 100000 in
theorem itab_K_11_4_1 : itabK6 11 4 1 = true := by decide +kernel
set_option maxRecDepth 100000 in
theorem itab_K_11_5_6 : itabK6 11 5 6 = true := by decide +kernel
set_option maxRecDepth 100000 in
theorem itab_K_11_7_0 : itabK6 11 7 0 = true := by decide +kernel
set_option maxRecDepth 100000 in
theorem itab_K_11_8_5 : itabK6 11 8 5 = true := by decide +kernel
set_option maxRecDepth 100000 in
theorem itab_K_11_9_10 : itabK6 11 9 10 = true := by decide +kernel
set_option maxRecDepth 100000 in
theorem itab_K_12_1_3 : itabK6 12 1 3 = true := by decide +kernel
set_option maxRecDepth 100000 in
theorem itab_K_12_2_7 : itabK6 12 2 7 = true := by decide +kernel
set_option maxRecDepth 100000 in
theorem itab_K_12_3_11 : itabK6 12 3 11 = true := by decide +kernel
set_option maxRecDepth 100000 in
theorem itab_K_12_5_3 : itabK6 12 5 3 = true := by decide +kernel
set_option maxRecDepth 100000 in
theorem itab_K_12_6_7 : itabK6 12 6 7 = true := by decide +kernel
set_option maxRecDepth 100000 in
theorem itab_K_12_7_11 : itabK6 12 7 11 = true := by decide +kernel
set_option maxRecDepth 100000 in
theorem itab_K_12_9_3 : itabK6 12 9 3 = true := by decide +kernel
set_option maxRecDepth 100000 in
theorem itab_K_12_10_7 : itabK6 12 10 7 = true := by decide +kernel
set_option maxRecDepth 100000 in
theorem itab_K_13_0_11 : itabK6 13 0 11 = true := by decide +kernel
set_option maxRecDepth 100000 in
theorem itab_K_13_2_1 : itabK6 13 2 1 = true := by decide +kernel
set_option maxRecDepth 100000 in
theorem itab_K_13_3_4 : itabK6 13 3 4 = true := by decide +kernel
set_option maxRecDepth 100000 in
theorem itab_K_13_4_7 : itabK6 13 4 7 = true := by decide +kernel
set_option maxRecDepth 100000 in
theorem itab_K_13_5_10 : itabK6 13 5 10 = true := by decide +kernel
set_option maxRecDepth 100000 in
theorem itab_K_13_7_0 : itabK6 13 7 0 = true := by decide +kernel
set_option maxRecDepth 100000 in
theorem itab_K_13_8_3 : itabK6 13 8 3 = true := by decide +kernel
set_option maxRecDepth 100000 in
theorem itab_K_13_9_6 : itabK6 13 9 6 = true := by decide +kernel
set_option maxRecDepth 100000 in
theorem itab_K_13_10_9 : itabK6 13 10 9 = true := by decide +kernel
set_option maxRecDepth 100000 in
theorem itab_K_13_11_12 : itabK6 13 11 12 = true := by decide +kernel
set_option maxRecDepth 100000 in
theorem itab_K_14_1_1 : itabK6 14 1 1 = true := by decide +kernel
set_option maxRecDepth 100000 in
theorem itab_K_14_2_3 : itabK6 14 2 3 = true := by decide +kernel
set_option maxRecDepth 100000 in
theorem itab_K_14_3_5 : itabK6 14 3 5 = true := by decide +kernel
set_option maxRecDepth 100000 in
theorem itab_K_14_4_7 : itabK6 14 4 7 = true := by decide +kernel
set_option maxRecDepth 100000 in
theorem itab_K_14_5_9 : itabK6 14 5 9 = true := by decide +kernel
set_option maxRecDepth 100000 in
theorem itab_K_14_6_11 : itabK6 14 6 11 = true := by decide +kernel
set_option maxRecDepth 100000 in
theorem itab_K_14_7_13 : itabK6 14 7 13 = true := by decide +kernel
set_option maxRecDepth 100000 in
theorem itab_K_14_9_1 : itabK6 14 9 1 = true := by decide +kernel
set_option maxRecDepth 100000 in
theorem itab_K_14_10_3 : itabK6 14 10 3 = true := by decide +kernel
set_option maxRecDepth 100000 in
theorem itab_K_14_11_5 : itabK6 14 11 5 = true := by decide +kernel
set_option maxRecDepth 100000 in
theorem itab_K_14_12_7 : itabK6 14 12 7 = true := by decide +kernel
set_option maxRecDepth 100000 in
theorem itab_K_15_0_9 : itabK6 15 0 9 = true := by decide +kernel
set_option maxRecDepth 100000 in
theorem itab_K_15_1_10 : itabK6 15 1 10 = true := by decide +kernel
set_option maxRecDepth 100000 in
theorem itab_K_15_2_11 : itabK6 15 2 11 = true := by decide +kernel
set_option maxRecDepth 100000 in
theorem itab_K_15_3_12 : itabK6 15 3 12 = true := by decide +kernel
set_option maxRecDepth 100000 in
theorem itab_K_15_4_13 : itabK6 15 4 13 = true := by decide +kernel
set_option maxRecDepth 100000 in
theorem itab_K_15_5_14 : itabK6 15 5 14 = true := by decide +kernel
set_option maxRecDepth 100000 in
theorem itab_K_15_7_0 : itabK6 15 7 0 = true := by decide +kernel
set_option maxRecDepth 100000 in
theorem itab_K_15_8_1 : itabK6 15 8 1 = true := by decide +kernel
set_option maxRecDepth 100000 in
theorem itab_K_15_9_2 : itabK6 15 9 2 = true := by decide +kernel
set_option maxRecDepth 100000 in
theorem itab_K_15_10_3 : itabK6 15 10 3 = true := by decide +kernel
set_option maxRecDepth 100000 in
theorem itab_K_15_11_4 : itabK6 15 11 4 = true := by decide +kernel
set_option maxRecDepth 100000 in
theorem itab_K_15_12_5 : itabK6 15 12 5 = true := by decide +kernel
set_option maxRecDepth 100000 in
theorem itab_K_15_13_6 : itabK6 15 13 6 = true := by decide +kernel
end Go.Proofs.YtbehooekcpfgcaaGreatDoor
