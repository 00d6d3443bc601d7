/-
  InstTables: cases, run (14).
-/
import Derived.Test.YtbehooekcpfgcaaGreatDoorInstBase
namespace Go.Proofs.YtbehooekcpfgcaaGreatDoor
open Go Vx

noncomputable def itabK14 (s x y : Nat) : Bool := runM 4 [] [.and 0 15 s, .and 1 15 x, .and 2 15 y] 3 [.int .i64 (.var 0), .int .i64 (.var 1), .int .i64 (.var 2)]
noncomputable def itabA14 (s a b c d : Nat) : Bool := runM 4 [⟨1, 15, a, b⟩, ⟨2, 15, c, d⟩] [.and 0 15 s] 3 [.int .i64 (.var 0), .int .i64 (.var 1), .int .i64 (.var 2)]
set_option maxRecDepth 100000 in
theorem itab_A_3_1_1_3_15 : itabA14 3 1 1 3 15 = true := by decide +kernel
set_option maxRecDepth 100000 in
theorem itab_A_7_1_5_7_15 : itabA14 7 1 5 7 15 = true := by decide +kernel
set_option maxRecDepth 100000 in
theorem itab_A_11_1_9_11_15 : itabA14 11 1 9 11 15 = true := by decide +kernel
set_option maxRecDepth 100000 in
theorem itab_A_15_1_13_15_15 : itabA14 15 1 13 15 15 = true := by decide +kernel
set_option maxRecDepth 100000 in
theorem itab_K_4_1_3 : itabK14 4 1 3 = true := by decide +kernel
set_option maxRecDepth 100000 in
theorem itab_K_5_2_1 : itabK14 5 2 1 = true := by decide +kernel
set_option maxRecDepth 100000 in
theorem itab_K_6_1_1 : itabK14 6 1 1 = true := by decide +kernel
set_option maxRecDepth 100000 in
theorem itab_K_6_3_5 : itabK14 6 3 5 = true := by decide +kernel
set_option maxRecDepth 100000 in
theorem itab_K_7_1_2 : itabK14 7 1 2 = true := by decide +kernel
set_option maxRecDepth 100000 in
theorem itab_K_7_3_4 : itabK14 7 3 4 = true := by decide +kernel
set_option maxRecDepth 100000 in
theorem itab_K_7_5_6 : itabK14 7 5 6 = true := by decide +kernel
set_option maxRecDepth 100000 in
theorem itab_K_8_1_7 : itabK14 8 1 7 = true := by decide +kernel
set_option maxRecDepth 100000 in
theorem itab_K_8_3_7 : itabK14 8 3 7 = true := by decide +kernel
set_option maxRecDepth 100000 in
theorem itab_K_8_5_7 : itabK14 8 5 7 = true := by decide +kernel
set_option maxRecDepth 100000 in
theorem itab_K_9_0_7 : itabK14 9 0 7 = true := by decide +kernel
set_option maxRecDepth 100000 in
theorem itab_K_9_2_5 : itabK14 9 2 5 = true := by decide +kernel
set_option maxRecDepth 100000 in
theorem itab_K_9_4_3 : itabK14 9 4 3 = true := by decide +kernel
set_option maxRecDepth 100000 in
theorem itab_K_9_6_1 : itabK14 9 6 1 = true := by decide +kernel
set_option maxRecDepth 100000 in
theorem itab_K_9_7_8 : itabK14 9 7 8 = true := by decide +kernel
set_option maxRecDepth 100000 in
theorem itab_K_10_1_5 : itabK14 10 1 5 = true := by decide +kernel
set_option maxRecDepth 100000 in
theorem itab_K_10_3_1 : itabK14 10 3 1 = true := by decide +kernel
set_option maxRecDepth 100000 in
theorem itab_K_10_4_7 : itabK14 10 4 7 = true := by decide +kernel
set_option maxRecDepth 100000 in
theorem itab_K_10_6_3 : itabK14 10 6 3 = true := by decide +kernel
set_option maxRecDepth 100000 in
theorem itab_K_10_7_9 : itabK14 10 7 9 = true := by decide +kernel
set_option maxRecDepth 100000 in
theorem itab_K_11_0_5 : itabK14 11 0 5 = true := by decide +kernel
set_option maxRecDepth 100000 in
theorem itab_K_11_1_10 : itabK14 11 1 10 = true := by decide +kernel
set_option maxRecDepth 100000 in
theorem itab_K_11_3_4 : itabK14 11 3 4 = true := by decide +kernel
set_option maxRecDepth 100000 in
theorem itab_K_11_4_9 : itabK14 11 4 9 = true := by decide +kernel
set_option maxRecDepth 100000 in
theorem itab_K_11_6_3 : itabK14 11 6 3 = true := by decide +kernel
set_option maxRecDepth 100000 in
theorem itab_K_11_7_8 : itabK14 11 7 8 = true := by decide +kernel
set_option maxRecDepth 100000 in
theorem itab_K_11_9_2 : itabK14 11 9 2 = true := by decide +kernel
set_option maxRecDepth 100000 in
theorem itab_K_12_0_7 : itabK14 12 0 7 = true := by decide +kernel
set_option maxRecDepth 100000 in
theorem itab_K_12_1_11 : itabK14 12 1 11 = true := by decide +kernel
set_option maxRecDepth 100000 in
theorem itab_K_12_3_3 : itabK14 12 3 3 = true := by decide +kernel
set_option maxRecDepth 100000 in
theorem itab_K_12_4_7 : itabK14 12 4 7 = true := by decide +kernel
set_option maxRecDepth 100000 in
theorem itab_K_12_5_11 : itabK14 12 5 11 = true := by decide +kernel
set_option maxRecDepth 100000 in
theorem itab_K_12_7_3 : itabK14 12 7 3 = true := by decide +kernel
set_option maxRecDepth 100000 in
theorem itab_K_12_8_7 : itabK14 12 8 7 = true := by decide +kernel
set_option maxRecDepth 100000 in
theorem itab_K_12_9_11 : itabK14 12 9 11 = true := by decide +kernel
set_option maxRecDepth 100000 in
theorem itab_K_13_0_3 : itabK14 13 0 3 = true := by decide +kernel
set_option maxRecDepth 100000 in
theorem itab_K_13_1_6 : itabK14 13 1 6 = true := by decide +kernel
set_option maxRecDepth 100000 in
theorem itab_K_13_2_9 : itabK14 13 2 9 = true := by decide +kernel
set_option maxRecDepth 100000 in
theorem itab_K_13_3_12 : itabK14 13 3 12 = true := by decide +kernel
set_option maxRecDepth 100000 in
theorem itab_K_13_5_2 : itabK14 13 5 2 = true := by decide +kernel
set_option maxRecDepth 100000 in
theorem itab_K_13_6_5 : itabK14 13 6 5 = true := by decide +kernel
set_option maxRecDepth 100000 in
theorem itab_K_13_7_8 : itabK14 13 7 8 = true := by decide +kernel
set_option maxRecDepth 100000 in
theorem itab_K_13_8_11 : itabK14 13 8 11 = true := by decide +kernel
set_option maxRecDepth 100000 in
theorem itab_K_13_10_1 : itabK14 13 10 1 = true := by decide +kernel
set_option maxRecDepth 100000 in
theorem itab_K_13_11_4 : itabK14 13 11 4 = true := by decide +kernel
set_option maxRecDepth 100000 in
theorem itab_K_14_0_7 : itabK14 14 0 7 = true := by decide +kernel
set_option maxRecDepth 100000 in
theorem itab_K_14_1_9 : itabK14 14 1 9 = true := by decide +kernel
set_option maxRecDepth 100000 in
theorem itab_K_14_2_11 : itabK14 14 2 11 = true := by decide +kernel
set_option maxRecDepth 100000 in
theorem itab_K_14_3_13 : itabK14 14 3 13 = true := by decide +kernel
set_option maxRecDepth 100000 in
theorem itab_K_14_5_1 : itabK14 14 5 1 = true := by decide +kernel
set_option maxRecDepth 100000 in
theorem itab_K_14_6_3 : itabK14 14 6 3 = true := by decide +kernel
set_option maxRecDepth 100000 in
theorem itab_K_14_7_5 : itabK14 14 7 5 = true := by decide +kernel
set_option maxRecDepth 100000 in
theorem itab_K_14_8_7 : itabK14 14 8 7 = true := by decide +kernel
set_option maxRecDepth 100000 in
theorem itab_K_14_9_9 : itabK14 14 9 9 = true := by decide +kernel
set_option maxRecDepth 100000 in
theorem itab_K_14_10_11 : itabK14 14 10 11 = true := by decide +kernel
set_option maxRecDepth 100000 in
theorem itab_K_14_11_13 : itabK14 14 11 13 = true := by decide +kernel
set_option maxRecDepth 100000 in
theorem itab_K_15_0_1 : itabK14 15 0 1 = true := by decide +kernel
set_option maxRecDepth 100000 in
theorem itab_K_15_1_2 : itabK14 15 1 2 = true := by decide +kernel
set_option maxRecDepth 100000 in
theorem itab_K_15_2_3 : itabK14 15 2 3 = true := by decide +kernel
set_option maxRecDepth 100000 in
theorem itab_K_15_3_4 : itabK14 15 3 4 = true := by decide +kernel
set_option maxRecDepth 100000 in
theorem itab_K_15_4_5 : itabK14 15 4 5 = true := by decide +kernel
set_option maxRecDepth 100000 in
theorem itab_K_15_5_6 : itabK14 15 5 6 = true := by decide +kernel
set_option maxRecDepth 100000 in
theorem itab_K_15_6_7 : itabK14 15 6 7 = true := by decide +kernel
set_option maxRecDepth 100000 in
theorem itab_K_15_7_8 : itabK14 15 7 8 = true := by decide +kernel
set_option maxRecDepth 100000 in
theorem itab_K_15_8_9 : itabK14 15 8 9 = true := by decide +kernel
set_option maxRecDepth 100000 in
theorem itab_K_15_9_10 : itabK14 15 9 10 = true := by decide +kernel
set_option maxRecDepth 100000 in
theorem itab_K_15_10_11 : itabK14 15 10 11 = true := by decide +kernel
set_option maxRecDepth 100000 in
theorem itab_K_15_11_12 : itabK14 15 11 12 = true := by decide +kernel
set_option maxRecDepth 100000 in
theorem itab_K_15_12_13 : itabK14 15 12 13 = true := by decide +kernel
set_option maxRecDepth 100000 in
theorem itab_K_15_13_14 : itabK14 15 13 14 = true := by decide +kernel
end Go.Proofs.YtbehooekcpfgcaaGreatDoor
