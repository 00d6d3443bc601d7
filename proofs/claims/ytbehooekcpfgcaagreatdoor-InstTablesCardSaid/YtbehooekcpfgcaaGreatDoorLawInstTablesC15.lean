/-
  InstTables: cases, run (15).
-/
import Derived.Test.YtbehooekcpfgcaaGreatDoorInstBase
namespace Go.Proofs.YtbehooekcpfgcaaGreatDoor
open Go Vx

noncomputable def itabK15 (s x y : Nat) : Bool := runM 4 [] [.and 0 15 s, .and 1 15 x, .and 2 15 y] 3 [.int .i64 (.var 0), .int .i64 (.var 1), .int .i64 (.var 2)]
noncomputable def itabA15 (s a b c d : Nat) : Bool := runM 4 [⟨1, 15, a, b⟩, ⟨2, 15, c, d⟩] [.and 0 15 s] 3 [.int .i64 (.var 0), .int .i64 (.var 1), .int .i64 (.var 2)]
set_option maxRecDepth 100000 in
theorem itab_A_4_3_15_0_0 : itabA15 4 3 15 0 0 = true := by decide +kernel
set_option maxRecDepth 100000 in
theorem itab_A_8_7_15_0_0 : itabA15 8 7 15 0 0 = true := by decide +kernel
set_option maxRecDepth 100000 in
theorem itab_A_12_11_15_0_0 : itabA15 12 11 15 0 0 = true := by decide +kernel
set_option maxRecDepth 100000 in
theorem itab_K_2_0_0 : itabK15 2 0 0 = true := by decide +kernel
set_option maxRecDepth 100000 in
theorem itab_K_4_2_0 : itabK15 4 2 0 = true := by decide +kernel
set_option maxRecDepth 100000 in
theorem itab_K_5_2_2 : itabK15 5 2 2 = true := by decide +kernel
set_option maxRecDepth 100000 in
theorem itab_K_6_1_2 : itabK15 6 1 2 = true := by decide +kernel
set_option maxRecDepth 100000 in
theorem itab_K_6_4_0 : itabK15 6 4 0 = true := by decide +kernel
set_option maxRecDepth 100000 in
theorem itab_K_7_1_3 : itabK15 7 1 3 = true := by decide +kernel
set_option maxRecDepth 100000 in
theorem itab_K_7_3_5 : itabK15 7 3 5 = true := by decide +kernel
set_option maxRecDepth 100000 in
theorem itab_K_8_0_0 : itabK15 8 0 0 = true := by decide +kernel
set_option maxRecDepth 100000 in
theorem itab_K_8_2_0 : itabK15 8 2 0 = true := by decide +kernel
set_option maxRecDepth 100000 in
theorem itab_K_8_4_0 : itabK15 8 4 0 = true := by decide +kernel
set_option maxRecDepth 100000 in
theorem itab_K_8_6_0 : itabK15 8 6 0 = true := by decide +kernel
set_option maxRecDepth 100000 in
theorem itab_K_9_0_8 : itabK15 9 0 8 = true := by decide +kernel
set_option maxRecDepth 100000 in
theorem itab_K_9_2_6 : itabK15 9 2 6 = true := by decide +kernel
set_option maxRecDepth 100000 in
theorem itab_K_9_4_4 : itabK15 9 4 4 = true := by decide +kernel
set_option maxRecDepth 100000 in
theorem itab_K_9_6_2 : itabK15 9 6 2 = true := by decide +kernel
set_option maxRecDepth 100000 in
theorem itab_K_10_0_0 : itabK15 10 0 0 = true := by decide +kernel
set_option maxRecDepth 100000 in
theorem itab_K_10_1_6 : itabK15 10 1 6 = true := by decide +kernel
set_option maxRecDepth 100000 in
theorem itab_K_10_3_2 : itabK15 10 3 2 = true := by decide +kernel
set_option maxRecDepth 100000 in
theorem itab_K_10_4_8 : itabK15 10 4 8 = true := by decide +kernel
set_option maxRecDepth 100000 in
theorem itab_K_10_6_4 : itabK15 10 6 4 = true := by decide +kernel
set_option maxRecDepth 100000 in
theorem itab_K_10_8_0 : itabK15 10 8 0 = true := by decide +kernel
set_option maxRecDepth 100000 in
theorem itab_K_11_0_6 : itabK15 11 0 6 = true := by decide +kernel
set_option maxRecDepth 100000 in
theorem itab_K_11_2_0 : itabK15 11 2 0 = true := by decide +kernel
set_option maxRecDepth 100000 in
theorem itab_K_11_3_5 : itabK15 11 3 5 = true := by decide +kernel
set_option maxRecDepth 100000 in
theorem itab_K_11_4_10 : itabK15 11 4 10 = true := by decide +kernel
set_option maxRecDepth 100000 in
theorem itab_K_11_6_4 : itabK15 11 6 4 = true := by decide +kernel
set_option maxRecDepth 100000 in
theorem itab_K_11_7_9 : itabK15 11 7 9 = true := by decide +kernel
set_option maxRecDepth 100000 in
theorem itab_K_11_9_3 : itabK15 11 9 3 = true := by decide +kernel
set_option maxRecDepth 100000 in
theorem itab_K_12_0_8 : itabK15 12 0 8 = true := by decide +kernel
set_option maxRecDepth 100000 in
theorem itab_K_12_2_0 : itabK15 12 2 0 = true := by decide +kernel
set_option maxRecDepth 100000 in
theorem itab_K_12_3_4 : itabK15 12 3 4 = true := by decide +kernel
set_option maxRecDepth 100000 in
theorem itab_K_12_4_8 : itabK15 12 4 8 = true := by decide +kernel
set_option maxRecDepth 100000 in
theorem itab_K_12_6_0 : itabK15 12 6 0 = true := by decide +kernel
set_option maxRecDepth 100000 in
theorem itab_K_12_7_4 : itabK15 12 7 4 = true := by decide +kernel
set_option maxRecDepth 100000 in
theorem itab_K_12_8_8 : itabK15 12 8 8 = true := by decide +kernel
set_option maxRecDepth 100000 in
theorem itab_K_12_10_0 : itabK15 12 10 0 = true := by decide +kernel
set_option maxRecDepth 100000 in
theorem itab_K_13_0_4 : itabK15 13 0 4 = true := by decide +kernel
set_option maxRecDepth 100000 in
theorem itab_K_13_1_7 : itabK15 13 1 7 = true := by decide +kernel
set_option maxRecDepth 100000 in
theorem itab_K_13_2_10 : itabK15 13 2 10 = true := by decide +kernel
set_option maxRecDepth 100000 in
theorem itab_K_13_4_0 : itabK15 13 4 0 = true := by decide +kernel
set_option maxRecDepth 100000 in
theorem itab_K_13_5_3 : itabK15 13 5 3 = true := by decide +kernel
set_option maxRecDepth 100000 in
theorem itab_K_13_6_6 : itabK15 13 6 6 = true := by decide +kernel
set_option maxRecDepth 100000 in
theorem itab_K_13_7_9 : itabK15 13 7 9 = true := by decide +kernel
set_option maxRecDepth 100000 in
theorem itab_K_13_8_12 : itabK15 13 8 12 = true := by decide +kernel
set_option maxRecDepth 100000 in
theorem itab_K_13_10_2 : itabK15 13 10 2 = true := by decide +kernel
set_option maxRecDepth 100000 in
theorem itab_K_13_11_5 : itabK15 13 11 5 = true := by decide +kernel
set_option maxRecDepth 100000 in
theorem itab_K_14_0_8 : itabK15 14 0 8 = true := by decide +kernel
set_option maxRecDepth 100000 in
theorem itab_K_14_1_10 : itabK15 14 1 10 = true := by decide +kernel
set_option maxRecDepth 100000 in
theorem itab_K_14_2_12 : itabK15 14 2 12 = true := by decide +kernel
set_option maxRecDepth 100000 in
theorem itab_K_14_4_0 : itabK15 14 4 0 = true := by decide +kernel
set_option maxRecDepth 100000 in
theorem itab_K_14_5_2 : itabK15 14 5 2 = true := by decide +kernel
set_option maxRecDepth 100000 in
theorem itab_K_14_6_4 : itabK15 14 6 4 = true := by decide +kernel
set_option maxRecDepth 100000 in
theorem itab_K_14_7_6 : itabK15 14 7 6 = true := by decide +kernel
set_option maxRecDepth 100000 in
theorem itab_K_14_8_8 : itabK15 14 8 8 = true := by decide +kernel
set_option maxRecDepth 100000 in
theorem itab_K_14_9_10 : itabK15 14 9 10 = true := by decide +kernel
set_option maxRecDepth 100000 in
theorem itab_K_14_10_12 : itabK15 14 10 12 = true := by decide +kernel
set_option maxRecDepth 100000 in
theorem itab_K_14_12_0 : itabK15 14 12 0 = true := by decide +kernel
set_option maxRecDepth 100000 in
theorem itab_K_15_0_2 : itabK15 15 0 2 = true := by decide +kernel
set_option maxRecDepth 100000 in
theorem itab_K_15_1_3 : itabK15 15 1 3 = true := by decide +kernel
set_option maxRecDepth 100000 in
theorem itab_K_15_2_4 : itabK15 15 2 4 = true := by decide +kernel
set_option maxRecDepth 100000 in
theorem itab_K_15_3_5 : itabK15 15 3 5 = true := by decide +kernel
set_option maxRecDepth 100000 in
theorem itab_K_15_4_6 : itabK15 15 4 6 = true := by decide +kernel
set_option maxRecDepth 100000 in
theorem itab_K_15_5_7 : itabK15 15 5 7 = true := by decide +kernel
set_option maxRecDepth 100000 in
theorem itab_K_15_6_8 : itabK15 15 6 8 = true := by decide +kernel
set_option maxRecDepth 100000 in
theorem itab_K_15_7_9 : itabK15 15 7 9 = true := by decide +kernel
set_option maxRecDepth 100000 in
theorem itab_K_15_8_10 : itabK15 15 8 10 = true := by decide +kernel
set_option maxRecDepth 100000 in
theorem itab_K_15_9_11 : itabK15 15 9 11 = true := by decide +kernel
set_option maxRecDepth 100000 in
theorem itab_K_15_10_12 : itabK15 15 10 12 = true := by decide +kernel
set_option maxRecDepth 100000 in
theorem itab_K_15_11_13 : itabK15 15 11 13 = true := by decide +kernel
set_option maxRecDepth 100000 in
theorem itab_K_15_12_14 : itabK15 15 12 14 = true := by decide +kernel
end Go.Proofs.YtbehooekcpfgcaaGreatDoor
