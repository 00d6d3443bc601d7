/-
  InstTables: cases, run (3).
-/
import Derived.Test.YtbehooekcpfgcaaGreatDoorInstBase
namespace Go.Proofs.YtbehooekcpfgcaaGreatDoor
open Go Vx

noncomputable def itabK3 (s x y : Nat) : Bool := runM 4 [] [.and 0 15 s, .and 1 15 x, .and 2 15 y] 3 [.int .i64 (.var 0), .int .i64 (.var 1), .int .i64 (.var 2)]
noncomputable def itabA3 (s a b c d : Nat) : Bool := runM 4 [⟨1, 15, a, b⟩, ⟨2, 15, c, d⟩] [.and 0 15 s] 3 [.int .i64 (.var 0), .int .i64 (.var 1), .int .i64 (.var 2)]
set_option maxRecDepth 100000 in
theorem itab_A_0_1_15_1_15 : itabA3 0 1 15 1 15 = true := by decide +kernel
set_option maxRecDepth 100000 in
theorem itab_A_5_4_15_0_0 : itabA3 5 4 15 0 0 = true := by decide +kernel
set_option maxRecDepth 100000 in
theorem itab_A_9_8_15_0_0 : itabA3 9 8 15 0 0 = true := by decide +kernel
set_option maxRecDepth 100000 in
theorem itab_A_13_12_15_0_0 : itabA3 13 12 15 0 0 = true := by decide +kernel
set_option maxRecDepth 100000 in
theorem itab_K_3_0_2 : itabK3 3 0 2 = true := by decide +kernel
set_option maxRecDepth 100000 in
theorem itab_K_5_0_0 : itabK3 5 0 0 = true := by decide +kernel
set_option maxRecDepth 100000 in
theorem itab_K_5_3_1 : itabK3 5 3 1 = true := by decide +kernel
set_option maxRecDepth 100000 in
theorem itab_K_6_2_0 : itabK3 6 2 0 = true := by decide +kernel
set_option maxRecDepth 100000 in
theorem itab_K_6_4_4 : itabK3 6 4 4 = true := by decide +kernel
set_option maxRecDepth 100000 in
theorem itab_K_7_2_0 : itabK3 7 2 0 = true := by decide +kernel
set_option maxRecDepth 100000 in
theorem itab_K_7_4_2 : itabK3 7 4 2 = true := by decide +kernel
set_option maxRecDepth 100000 in
theorem itab_K_8_0_4 : itabK3 8 0 4 = true := by decide +kernel
set_option maxRecDepth 100000 in
theorem itab_K_8_2_4 : itabK3 8 2 4 = true := by decide +kernel
set_option maxRecDepth 100000 in
theorem itab_K_8_4_4 : itabK3 8 4 4 = true := by decide +kernel
set_option maxRecDepth 100000 in
theorem itab_K_8_6_4 : itabK3 8 6 4 = true := by decide +kernel
set_option maxRecDepth 100000 in
theorem itab_K_9_1_3 : itabK3 9 1 3 = true := by decide +kernel
set_option maxRecDepth 100000 in
theorem itab_K_9_3_1 : itabK3 9 3 1 = true := by decide +kernel
set_option maxRecDepth 100000 in
theorem itab_K_9_4_8 : itabK3 9 4 8 = true := by decide +kernel
set_option maxRecDepth 100000 in
theorem itab_K_9_6_6 : itabK3 9 6 6 = true := by decide +kernel
set_option maxRecDepth 100000 in
theorem itab_K_10_0_4 : itabK3 10 0 4 = true := by decide +kernel
set_option maxRecDepth 100000 in
theorem itab_K_10_2_0 : itabK3 10 2 0 = true := by decide +kernel
set_option maxRecDepth 100000 in
theorem itab_K_10_3_6 : itabK3 10 3 6 = true := by decide +kernel
set_option maxRecDepth 100000 in
theorem itab_K_10_5_2 : itabK3 10 5 2 = true := by decide +kernel
set_option maxRecDepth 100000 in
theorem itab_K_10_6_8 : itabK3 10 6 8 = true := by decide +kernel
set_option maxRecDepth 100000 in
theorem itab_K_10_8_4 : itabK3 10 8 4 = true := by decide +kernel
set_option maxRecDepth 100000 in
theorem itab_K_11_0_10 : itabK3 11 0 10 = true := by decide +kernel
set_option maxRecDepth 100000 in
theorem itab_K_11_2_4 : itabK3 11 2 4 = true := by decide +kernel
set_option maxRecDepth 100000 in
theorem itab_K_11_3_9 : itabK3 11 3 9 = true := by decide +kernel
set_option maxRecDepth 100000 in
theorem itab_K_11_5_3 : itabK3 11 5 3 = true := by decide +kernel
set_option maxRecDepth 100000 in
theorem itab_K_11_6_8 : itabK3 11 6 8 = true := by decide +kernel
set_option maxRecDepth 100000 in
theorem itab_K_11_8_2 : itabK3 11 8 2 = true := by decide +kernel
set_option maxRecDepth 100000 in
theorem itab_K_11_9_7 : itabK3 11 9 7 = true := by decide +kernel
set_option maxRecDepth 100000 in
theorem itab_K_12_1_0 : itabK3 12 1 0 = true := by decide +kernel
set_option maxRecDepth 100000 in
theorem itab_K_12_2_4 : itabK3 12 2 4 = true := by decide +kernel
set_option maxRecDepth 100000 in
theorem itab_K_12_3_8 : itabK3 12 3 8 = true := by decide +kernel
set_option maxRecDepth 100000 in
theorem itab_K_12_5_0 : itabK3 12 5 0 = true := by decide +kernel
set_option maxRecDepth 100000 in
theorem itab_K_12_6_4 : itabK3 12 6 4 = true := by decide +kernel
set_option maxRecDepth 100000 in
theorem itab_K_12_7_8 : itabK3 12 7 8 = true := by decide +kernel
set_option maxRecDepth 100000 in
theorem itab_K_12_9_0 : itabK3 12 9 0 = true := by decide +kernel
set_option maxRecDepth 100000 in
theorem itab_K_12_10_4 : itabK3 12 10 4 = true := by decide +kernel
set_option maxRecDepth 100000 in
theorem itab_K_13_0_8 : itabK3 13 0 8 = true := by decide +kernel
set_option maxRecDepth 100000 in
theorem itab_K_13_1_11 : itabK3 13 1 11 = true := by decide +kernel
set_option maxRecDepth 100000 in
theorem itab_K_13_3_1 : itabK3 13 3 1 = true := by decide +kernel
set_option maxRecDepth 100000 in
theorem itab_K_13_4_4 : itabK3 13 4 4 = true := by decide +kernel
set_option maxRecDepth 100000 in
theorem itab_K_13_5_7 : itabK3 13 5 7 = true := by decide +kernel
set_option maxRecDepth 100000 in
theorem itab_K_13_6_10 : itabK3 13 6 10 = true := by decide +kernel
set_option maxRecDepth 100000 in
theorem itab_K_13_8_0 : itabK3 13 8 0 = true := by decide +kernel
set_option maxRecDepth 100000 in
theorem itab_K_13_9_3 : itabK3 13 9 3 = true := by decide +kernel
set_option maxRecDepth 100000 in
theorem itab_K_13_10_6 : itabK3 13 10 6 = true := by decide +kernel
set_option maxRecDepth 100000 in
theorem itab_K_13_11_9 : itabK3 13 11 9 = true := by decide +kernel
set_option maxRecDepth 100000 in
theorem itab_K_14_0_12 : itabK3 14 0 12 = true := by decide +kernel
set_option maxRecDepth 100000 in
theorem itab_K_14_2_0 : itabK3 14 2 0 = true := by decide +kernel
set_option maxRecDepth 100000 in
theorem itab_K_14_3_2 : itabK3 14 3 2 = true := by decide +kernel
set_option maxRecDepth 100000 in
theorem itab_K_14_4_4 : itabK3 14 4 4 = true := by decide +kernel
set_option maxRecDepth 100000 in
theorem itab_K_14_5_6 : itabK3 14 5 6 = true := by decide +kernel
set_option maxRecDepth 100000 in
theorem itab_K_14_6_8 : itabK3 14 6 8 = true := by decide +kernel
set_option maxRecDepth 100000 in
theorem itab_K_14_7_10 : itabK3 14 7 10 = true := by decide +kernel
set_option maxRecDepth 100000 in
theorem itab_K_14_8_12 : itabK3 14 8 12 = true := by decide +kernel
set_option maxRecDepth 100000 in
theorem itab_K_14_10_0 : itabK3 14 10 0 = true := by decide +kernel
set_option maxRecDepth 100000 in
theorem itab_K_14_11_2 : itabK3 14 11 2 = true := by decide +kernel
set_option maxRecDepth 100000 in
theorem itab_K_14_12_4 : itabK3 14 12 4 = true := by decide +kernel
set_option maxRecDepth 100000 in
theorem itab_K_15_0_6 : itabK3 15 0 6 = true := by decide +kernel
set_option maxRecDepth 100000 in
theorem itab_K_15_1_7 : itabK3 15 1 7 = true := by decide +kernel
set_option maxRecDepth 100000 in
theorem itab_K_15_2_8 : itabK3 15 2 8 = true := by decide +kernel
set_option maxRecDepth 100000 in
theorem itab_K_15_3_9 : itabK3 15 3 9 = true := by decide +kernel
set_option maxRecDepth 100000 in
theorem itab_K_15_4_10 : itabK3 15 4 10 = true := by decide +kernel
set_option maxRecDepth 100000 in
theorem itab_K_15_5_11 : itabK3 15 5 11 = true := by decide +kernel
set_option maxRecDepth 100000 in
theorem itab_K_15_6_12 : itabK3 15 6 12 = true := by decide +kernel
set_option maxRecDepth 100000 in
theorem itab_K_15_7_13 : itabK3 15 7 13 = true := by decide +kernel
set_option maxRecDepth 100000 in
theorem itab_K_15_8_14 : itabK3 15 8 14 = true := by decide +kernel
set_option maxRecDepth 100000 in
theorem itab_K_15_10_0 : itabK3 15 10 0 = true := by decide +kernel
set_option maxRecDepth 100000 in
theorem itab_K_15_11_1 : itabK3 15 11 1 = true := by decide +kernel
set_option maxRecDepth 100000 in
theorem itab_K_15_12_2 : itabK3 15 12 2 = true := by decide +kernel
set_option maxRecDepth 100000 in
theorem itab_K_15_13_3 : itabK3 15 13 3 = true := by decide +kernel
end Go.Proofs.YtbehooekcpfgcaaGreatDoor
