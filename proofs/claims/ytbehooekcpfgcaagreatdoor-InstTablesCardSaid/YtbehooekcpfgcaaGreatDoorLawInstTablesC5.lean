/-
  InstTables: cases, run (5).
-/
import Derived.Test.YtbehooekcpfgcaaGreatDoorInstBase
namespace Go.Proofs.YtbehooekcpfgcaaGreatDoor
open Go Vx

noncomputable def itabK5 (s x y : Nat) : Bool := runM 4 [] [.and 0 15 s, .and 1 15 x, .and 2 15 y] 3 [.int .i64 (.var 0), .int .i64 (.var 1), .int .i64 (.var 2)]
noncomputable def itabA5 (s a b c d : Nat) : Bool := runM 4 [⟨1, 15, a, b⟩, ⟨2, 15, c, d⟩] [.and 0 15 s] 3 [.int .i64 (.var 0), .int .i64 (.var 1), .int .i64 (.var 2)]
set_option maxRecDepth 100000 in
theorem itab_A_1_0_0_1_15 : itabA5 1 0 0 1 15 = true := by decide +kernel
set_option maxRecDepth 100000 in
theorem itab_A_5_0_0_5_15 : itabA5 5 0 0 5 15 = true := by decide +kernel
set_option maxRecDepth 100000 in
theorem itab_A_9_0_0_9_15 : itabA5 9 0 0 9 15 = true := by decide +kernel
set_option maxRecDepth 100000 in
theorem itab_A_13_0_0_13_15 : itabA5 13 0 0 13 15 = true := by decide +kernel
set_option maxRecDepth 100000 in
theorem itab_K_3_1_1 : itabK5 3 1 1 = true := by decide +kernel
set_option maxRecDepth 100000 in
theorem itab_K_5_0_2 : itabK5 5 0 2 = true := by decide +kernel
set_option maxRecDepth 100000 in
theorem itab_K_5_3_3 : itabK5 5 3 3 = true := by decide +kernel
set_option maxRecDepth 100000 in
theorem itab_K_6_2_2 : itabK5 6 2 2 = true := by decide +kernel
set_option maxRecDepth 100000 in
theorem itab_K_7_0_0 : itabK5 7 0 0 = true := by decide +kernel
set_option maxRecDepth 100000 in
theorem itab_K_7_2_2 : itabK5 7 2 2 = true := by decide +kernel
set_option maxRecDepth 100000 in
theorem itab_K_7_4_4 : itabK5 7 4 4 = true := by decide +kernel
set_option maxRecDepth 100000 in
theorem itab_K_8_0_6 : itabK5 8 0 6 = true := by decide +kernel
set_option maxRecDepth 100000 in
theorem itab_K_8_2_6 : itabK5 8 2 6 = true := by decide +kernel
set_option maxRecDepth 100000 in
theorem itab_K_8_4_6 : itabK5 8 4 6 = true := by decide +kernel
set_option maxRecDepth 100000 in
theorem itab_K_8_6_6 : itabK5 8 6 6 = true := by decide +kernel
set_option maxRecDepth 100000 in
theorem itab_K_9_1_5 : itabK5 9 1 5 = true := by decide +kernel
set_option maxRecDepth 100000 in
theorem itab_K_9_3_3 : itabK5 9 3 3 = true := by decide +kernel
set_option maxRecDepth 100000 in
theorem itab_K_9_5_1 : itabK5 9 5 1 = true := by decide +kernel
set_option maxRecDepth 100000 in
theorem itab_K_9_6_8 : itabK5 9 6 8 = true := by decide +kernel
set_option maxRecDepth 100000 in
theorem itab_K_10_0_6 : itabK5 10 0 6 = true := by decide +kernel
set_option maxRecDepth 100000 in
theorem itab_K_10_2_2 : itabK5 10 2 2 = true := by decide +kernel
set_option maxRecDepth 100000 in
theorem itab_K_10_3_8 : itabK5 10 3 8 = true := by decide +kernel
set_option maxRecDepth 100000 in
theorem itab_K_10_5_4 : itabK5 10 5 4 = true := by decide +kernel
set_option maxRecDepth 100000 in
theorem itab_K_10_7_0 : itabK5 10 7 0 = true := by decide +kernel
set_option maxRecDepth 100000 in
theorem itab_K_10_8_6 : itabK5 10 8 6 = true := by decide +kernel
set_option maxRecDepth 100000 in
theorem itab_K_11_1_1 : itabK5 11 1 1 = true := by decide +kernel
set_option maxRecDepth 100000 in
theorem itab_K_11_2_6 : itabK5 11 2 6 = true := by decide +kernel
set_option maxRecDepth 100000 in
theorem itab_K_11_4_0 : itabK5 11 4 0 = true := by decide +kernel
set_option maxRecDepth 100000 in
theorem itab_K_11_5_5 : itabK5 11 5 5 = true := by decide +kernel
set_option maxRecDepth 100000 in
theorem itab_K_11_6_10 : itabK5 11 6 10 = true := by decide +kernel
set_option maxRecDepth 100000 in
theorem itab_K_11_8_4 : itabK5 11 8 4 = true := by decide +kernel
set_option maxRecDepth 100000 in
theorem itab_K_11_9_9 : itabK5 11 9 9 = true := by decide +kernel
set_option maxRecDepth 100000 in
theorem itab_K_12_1_2 : itabK5 12 1 2 = true := by decide +kernel
set_option maxRecDepth 100000 in
theorem itab_K_12_2_6 : itabK5 12 2 6 = true := by decide +kernel
set_option maxRecDepth 100000 in
theorem itab_K_12_3_10 : itabK5 12 3 10 = true := by decide +kernel
set_option maxRecDepth 100000 in
theorem itab_K_12_5_2 : itabK5 12 5 2 = true := by decide +kernel
set_option maxRecDepth 100000 in
theorem itab_K_12_6_6 : itabK5 12 6 6 = true := by decide +kernel
set_option maxRecDepth 100000 in
theorem itab_K_12_7_10 : itabK5 12 7 10 = true := by decide +kernel
set_option maxRecDepth 100000 in
theorem itab_K_12_9_2 : itabK5 12 9 2 = true := by decide +kernel
set_option maxRecDepth 100000 in
theorem itab_K_12_10_6 : itabK5 12 10 6 = true := by decide +kernel
set_option maxRecDepth 100000 in
theorem itab_K_13_0_10 : itabK5 13 0 10 = true := by decide +kernel
set_option maxRecDepth 100000 in
theorem itab_K_13_2_0 : itabK5 13 2 0 = true := by decide +kernel
set_option maxRecDepth 100000 in
theorem itab_K_13_3_3 : itabK5 13 3 3 = true := by decide +kernel
set_option maxRecDepth 100000 in
theorem itab_K_13_4_6 : itabK5 13 4 6 = true := by decide +kernel
set_option maxRecDepth 100000 in
theorem itab_K_13_5_9 : itabK5 13 5 9 = true := by decide +kernel
set_option maxRecDepth 100000 in
theorem itab_K_13_6_12 : itabK5 13 6 12 = true := by decide +kernel
set_option maxRecDepth 100000 in
theorem itab_K_13_8_2 : itabK5 13 8 2 = true := by decide +kernel
set_option maxRecDepth 100000 in
theorem itab_K_13_9_5 : itabK5 13 9 5 = true := by decide +kernel
set_option maxRecDepth 100000 in
theorem itab_K_13_10_8 : itabK5 13 10 8 = true := by decide +kernel
set_option maxRecDepth 100000 in
theorem itab_K_13_11_11 : itabK5 13 11 11 = true := by decide +kernel
set_option maxRecDepth 100000 in
theorem itab_K_14_1_0 : itabK5 14 1 0 = true := by decide +kernel
set_option maxRecDepth 100000 in
theorem itab_K_14_2_2 : itabK5 14 2 2 = true := by decide +kernel
set_option maxRecDepth 100000 in
theorem itab_K_14_3_4 : itabK5 14 3 4 = true := by decide +kernel
set_option maxRecDepth 100000 in
theorem itab_K_14_4_6 : itabK5 14 4 6 = true := by decide +kernel
set_option maxRecDepth 100000 in
theorem itab_K_14_5_8 : itabK5 14 5 8 = true := by decide +kernel
set_option maxRecDepth 100000 in
theorem itab_K_14_6_10 : itabK5 14 6 10 = true := by decide +kernel
set_option maxRecDepth 100000 in
theorem itab_K_14_7_12 : itabK5 14 7 12 = true := by decide +kernel
set_option maxRecDepth 100000 in
theorem itab_K_14_9_0 : itabK5 14 9 0 = true := by decide +kernel
set_option maxRecDepth 100000 in
theorem itab_K_14_10_2 : itabK5 14 10 2 = true := by decide +kernel
set_option maxRecDepth 100000 in
theorem itab_K_14_11_4 : itabK5 14 11 4 = true := by decide +kernel
set_option maxRecDepth 100000 in
theorem itab_K_14_12_6 : itabK5 14 12 6 = true := by decide +kernel
set_option maxRecDepth 100000 in
theorem itab_K_15_0_8 : itabK5 15 0 8 = true := by decide +kernel
set_option maxRecDepth 100000 in
theorem itab_K_15_1_9 : itabK5 15 1 9 = true := by decide +kernel
set_option maxRecDepth 100000 in
theorem itab_K_15_2_10 : itabK5 15 2 10 = true := by decide +kernel
set_option maxRecDepth 100000 in
theorem itab_K_15_3_11 : itabK5 15 3 11 = true := by decide +kernel
set_option maxRecDepth 100000 in
theorem itab_K_15_4_12 : itabK5 15 4 12 = true := by decide +kernel
set_option maxRecDepth 100000 in
theorem itab_K_15_5_13 : itabK5 15 5 13 = true := by decide +kernel
set_option maxRecDepth 100000 in
theorem itab_K_15_6_14 : itabK5 15 6 14 = true := by decide +kernel
set_option maxRecDepth 100000 in
theorem itab_K_15_8_0 : itabK5 15 8 0 = true := by decide +kernel
set_option maxRecDepth 100000 in
theorem itab_K_15_9_1 : itabK5 15 9 1 = true := by decide +kernel
set_option maxRecDepth 100000 in
theorem itab_K_15_10_2 : itabK5 15 10 2 = true := by decide +kernel
set_option maxRecDepth 100000 in
theorem itab_K_15_11_3 : itabK5 15 11 3 = true := by decide +kernel
set_option maxRecDepth 100000 in
theorem itab_K_15_12_4 : itabK5 15 12 4 = true := by decide +kernel
set_option maxRecDepth 100000 in
theorem itab_K_15_13_5 : itabK5 15 13 5 = true := by decide +kernel
end Go.Proofs.YtbehooekcpfgcaaGreatDoor
