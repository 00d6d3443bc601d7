/-
  InstTables: what a call of it comes to.
-/
import Derived.Test.YtbehooekcpfgcaaGreatDoorLawInstTablesC0
import Derived.Test.YtbehooekcpfgcaaGreatDoorLawInstTablesC1
import Derived.Test.YtbehooekcpfgcaaGreatDoorLawInstTablesC2
import Derived.Test.YtbehooekcpfgcaaGreatDoorLawInstTablesC3
import Derived.Test.YtbehooekcpfgcaaGreatDoorLawInstTablesC4
import Derived.Test.YtbehooekcpfgcaaGreatDoorLawInstTablesC5
import Derived.Test.YtbehooekcpfgcaaGreatDoorLawInstTablesC6
import Derived.Test.YtbehooekcpfgcaaGreatDoorLawInstTablesC7
import Derived.Test.YtbehooekcpfgcaaGreatDoorLawInstTablesC8
import Derived.Test.YtbehooekcpfgcaaGreatDoorLawInstTablesC9
import Derived.Test.YtbehooekcpfgcaaGreatDoorLawInstTablesC10
import Derived.Test.YtbehooekcpfgcaaGreatDoorLawInstTablesC11
import Derived.Test.YtbehooekcpfgcaaGreatDoorLawInstTablesC12
import Derived.Test.YtbehooekcpfgcaaGreatDoorLawInstTablesC13
import Derived.Test.YtbehooekcpfgcaaGreatDoorLawInstTablesC14
import Derived.Test.YtbehooekcpfgcaaGreatDoorLawInstTablesC15
namespace Go.Proofs.YtbehooekcpfgcaaGreatDoor
open Go Vx
set_option linter.unusedVariables false

theorem itab_N0 (x y : Nat) (hx : x ≤ 15) (hy : y ≤ 15) (h : 0 < x + 2 ∨ 0 < y + 1) : ∃ a b c d : Nat, a ≤ x ∧ x ≤ b ∧ c ≤ y ∧ y ≤ d ∧ runM 4 [⟨1, 15, a, b⟩, ⟨2, 15, c, d⟩] [.and 0 15 0] 3 [.int .i64 (.var 0), .int .i64 (.var 1), .int .i64 (.var 2)] = true := by
  by_cases g0 : 0 ≤ x ∧ x ≤ 0 ∧ 0 ≤ y ∧ y ≤ 0
  · exact ⟨0, 0, 0, 0, g0.1, g0.2.1, g0.2.2.1, g0.2.2.2, itab_A_0_0_0_0_0⟩
  by_cases g1 : 0 ≤ x ∧ x ≤ 0 ∧ 1 ≤ y ∧ y ≤ 15
  · exact ⟨0, 0, 1, 15, g1.1, g1.2.1, g1.2.2.1, g1.2.2.2, itab_A_0_0_0_1_15⟩
  by_cases g2 : 1 ≤ x ∧ x ≤ 15 ∧ 0 ≤ y ∧ y ≤ 0
  · exact ⟨1, 15, 0, 0, g2.1, g2.2.1, g2.2.2.1, g2.2.2.2, itab_A_0_1_15_0_0⟩
  by_cases g3 : 1 ≤ x ∧ x ≤ 15 ∧ 1 ≤ y ∧ y ≤ 15
  · exact ⟨1, 15, 1, 15, g3.1, g3.2.1, g3.2.2.1, g3.2.2.2, itab_A_0_1_15_1_15⟩
  · omega
theorem itab_N1 (x y : Nat) (hx : x ≤ 15) (hy : y ≤ 15) (h : 1 < x + 2 ∨ 1 < y + 1) : ∃ a b c d : Nat, a ≤ x ∧ x ≤ b ∧ c ≤ y ∧ y ≤ d ∧ runM 4 [⟨1, 15, a, b⟩, ⟨2, 15, c, d⟩] [.and 0 15 1] 3 [.int .i64 (.var 0), .int .i64 (.var 1), .int .i64 (.var 2)] = true := by
  by_cases g0 : 0 ≤ x ∧ x ≤ 0 ∧ 0 ≤ y ∧ y ≤ 0
  · exact ⟨0, 0, 0, 0, g0.1, g0.2.1, g0.2.2.1, g0.2.2.2, itab_A_1_0_0_0_0⟩
  by_cases g1 : 0 ≤ x ∧ x ≤ 0 ∧ 1 ≤ y ∧ y ≤ 15
  · exact ⟨0, 0, 1, 15, g1.1, g1.2.1, g1.2.2.1, g1.2.2.2, itab_A_1_0_0_1_15⟩
  by_cases g2 : 1 ≤ x ∧ x ≤ 15 ∧ 0 ≤ y ∧ y ≤ 0
  · exact ⟨1, 15, 0, 0, g2.1, g2.2.1, g2.2.2.1, g2.2.2.2, itab_A_1_1_15_0_0⟩
  by_cases g3 : 1 ≤ x ∧ x ≤ 15 ∧ 1 ≤ y ∧ y ≤ 15
  · exact ⟨1, 15, 1, 15, g3.1, g3.2.1, g3.2.2.1, g3.2.2.2, itab_A_1_1_15_1_15⟩
  · omega
theorem itab_N2 (x y : Nat) (hx : x ≤ 15) (hy : y ≤ 15) (h : 2 < x + 2 ∨ 2 < y + 1) : ∃ a b c d : Nat, a ≤ x ∧ x ≤ b ∧ c ≤ y ∧ y ≤ d ∧ runM 4 [⟨1, 15, a, b⟩, ⟨2, 15, c, d⟩] [.and 0 15 2] 3 [.int .i64 (.var 0), .int .i64 (.var 1), .int .i64 (.var 2)] = true := by
  by_cases g0 : 1 ≤ x ∧ x ≤ 15 ∧ 0 ≤ y ∧ y ≤ 0
  · exact ⟨1, 15, 0, 0, g0.1, g0.2.1, g0.2.2.1, g0.2.2.2, itab_A_2_1_15_0_0⟩
  by_cases g1 : 1 ≤ x ∧ x ≤ 15 ∧ 1 ≤ y ∧ y ≤ 15
  · exact ⟨1, 15, 1, 15, g1.1, g1.2.1, g1.2.2.1, g1.2.2.2, itab_A_2_1_15_1_15⟩
  by_cases g2 : 0 ≤ x ∧ x ≤ 0 ∧ 2 ≤ y ∧ y ≤ 15
  · exact ⟨0, 0, 2, 15, g2.1, g2.2.1, g2.2.2.1, g2.2.2.2, itab_A_2_0_0_2_15⟩
  · omega
theorem itab_N3 (x y : Nat) (hx : x ≤ 15) (hy : y ≤ 15) (h : 3 < x + 2 ∨ 3 < y + 1) : ∃ a b c d : Nat, a ≤ x ∧ x ≤ b ∧ c ≤ y ∧ y ≤ d ∧ runM 4 [⟨1, 15, a, b⟩, ⟨2, 15, c, d⟩] [.and 0 15 3] 3 [.int .i64 (.var 0), .int .i64 (.var 1), .int .i64 (.var 2)] = true := by
  by_cases g0 : 2 ≤ x ∧ x ≤ 15 ∧ 0 ≤ y ∧ y ≤ 0
  · exact ⟨2, 15, 0, 0, g0.1, g0.2.1, g0.2.2.1, g0.2.2.2, itab_A_3_2_15_0_0⟩
  by_cases g1 : 2 ≤ x ∧ x ≤ 15 ∧ 1 ≤ y ∧ y ≤ 15
  · exact ⟨2, 15, 1, 15, g1.1, g1.2.1, g1.2.2.1, g1.2.2.2, itab_A_3_2_15_1_15⟩
  by_cases g2 : 0 ≤ x ∧ x ≤ 0 ∧ 3 ≤ y ∧ y ≤ 15
  · exact ⟨0, 0, 3, 15, g2.1, g2.2.1, g2.2.2.1, g2.2.2.2, itab_A_3_0_0_3_15⟩
  by_cases g3 : 1 ≤ x ∧ x ≤ 1 ∧ 3 ≤ y ∧ y ≤ 15
  · exact ⟨1, 1, 3, 15, g3.1, g3.2.1, g3.2.2.1, g3.2.2.2, itab_A_3_1_1_3_15⟩
  · omega
theorem itab_N4 (x y : Nat) (hx : x ≤ 15) (hy : y ≤ 15) (h : 4 < x + 2 ∨ 4 < y + 1) : ∃ a b c d : Nat, a ≤ x ∧ x ≤ b ∧ c ≤ y ∧ y ≤ d ∧ runM 4 [⟨1, 15, a, b⟩, ⟨2, 15, c, d⟩] [.and 0 15 4] 3 [.int .i64 (.var 0), .int .i64 (.var 1), .int .i64 (.var 2)] = true := by
  by_cases g0 : 3 ≤ x ∧ x ≤ 15 ∧ 0 ≤ y ∧ y ≤ 0
  · exact ⟨3, 15, 0, 0, g0.1, g0.2.1, g0.2.2.1, g0.2.2.2, itab_A_4_3_15_0_0⟩
  by_cases g1 : 3 ≤ x ∧ x ≤ 15 ∧ 1 ≤ y ∧ y ≤ 15
  · exact ⟨3, 15, 1, 15, g1.1, g1.2.1, g1.2.2.1, g1.2.2.2, itab_A_4_3_15_1_15⟩
  by_cases g2 : 0 ≤ x ∧ x ≤ 0 ∧ 4 ≤ y ∧ y ≤ 15
  · exact ⟨0, 0, 4, 15, g2.1, g2.2.1, g2.2.2.1, g2.2.2.2, itab_A_4_0_0_4_15⟩
  by_cases g3 : 1 ≤ x ∧ x ≤ 2 ∧ 4 ≤ y ∧ y ≤ 15
  · exact ⟨1, 2, 4, 15, g3.1, g3.2.1, g3.2.2.1, g3.2.2.2, itab_A_4_1_2_4_15⟩
  · omega
theorem itab_N5 (x y : Nat) (hx : x ≤ 15) (hy : y ≤ 15) (h : 5 < x + 2 ∨ 5 < y + 1) : ∃ a b c d : Nat, a ≤ x ∧ x ≤ b ∧ c ≤ y ∧ y ≤ d ∧ runM 4 [⟨1, 15, a, b⟩, ⟨2, 15, c, d⟩] [.and 0 15 5] 3 [.int .i64 (.var 0), .int .i64 (.var 1), .int .i64 (.var 2)] = true := by
  by_cases g0 : 4 ≤ x ∧ x ≤ 15 ∧ 0 ≤ y ∧ y ≤ 0
  · exact ⟨4, 15, 0, 0, g0.1, g0.2.1, g0.2.2.1, g0.2.2.2, itab_A_5_4_15_0_0⟩
  by_cases g1 : 4 ≤ x ∧ x ≤ 15 ∧ 1 ≤ y ∧ y ≤ 15
  · exact ⟨4, 15, 1, 15, g1.1, g1.2.1, g1.2.2.1, g1.2.2.2, itab_A_5_4_15_1_15⟩
  by_cases g2 : 0 ≤ x ∧ x ≤ 0 ∧ 5 ≤ y ∧ y ≤ 15
  · exact ⟨0, 0, 5, 15, g2.1, g2.2.1, g2.2.2.1, g2.2.2.2, itab_A_5_0_0_5_15⟩
  by_cases g3 : 1 ≤ x ∧ x ≤ 3 ∧ 5 ≤ y ∧ y ≤ 15
  · exact ⟨1, 3, 5, 15, g3.1, g3.2.1, g3.2.2.1, g3.2.2.2, itab_A_5_1_3_5_15⟩
  · omega
theorem itab_N6 (x y : Nat) (hx : x ≤ 15) (hy : y ≤ 15) (h : 6 < x + 2 ∨ 6 < y + 1) : ∃ a b c d : Nat, a ≤ x ∧ x ≤ b ∧ c ≤ y ∧ y ≤ d ∧ runM 4 [⟨1, 15, a, b⟩, ⟨2, 15, c, d⟩] [.and 0 15 6] 3 [.int .i64 (.var 0), .int .i64 (.var 1), .int .i64 (.var 2)] = true := by
  by_cases g0 : 5 ≤ x ∧ x ≤ 15 ∧ 0 ≤ y ∧ y ≤ 0
  · exact ⟨5, 15, 0, 0, g0.1, g0.2.1, g0.2.2.1, g0.2.2.2, itab_A_6_5_15_0_0⟩
  by_cases g1 : 5 ≤ x ∧ x ≤ 15 ∧ 1 ≤ y ∧ y ≤ 15
  · exact ⟨5, 15, 1, 15, g1.1, g1.2.1, g1.2.2.1, g1.2.2.2, itab_A_6_5_15_1_15⟩
  by_cases g2 : 0 ≤ x ∧ x ≤ 0 ∧ 6 ≤ y ∧ y ≤ 15
  · exact ⟨0, 0, 6, 15, g2.1, g2.2.1, g2.2.2.1, g2.2.2.2, itab_A_6_0_0_6_15⟩
  by_cases g3 : 1 ≤ x ∧ x ≤ 4 ∧ 6 ≤ y ∧ y ≤ 15
  · exact ⟨1, 4, 6, 15, g3.1, g3.2.1, g3.2.2.1, g3.2.2.2, itab_A_6_1_4_6_15⟩
  · omega
theorem itab_N7 (x y : Nat) (hx : x ≤ 15) (hy : y ≤ 15) (h : 7 < x + 2 ∨ 7 < y + 1) : ∃ a b c d : Nat, a ≤ x ∧ x ≤ b ∧ c ≤ y ∧ y ≤ d ∧ runM 4 [⟨1, 15, a, b⟩, ⟨2, 15, c, d⟩] [.and 0 15 7] 3 [.int .i64 (.var 0), .int .i64 (.var 1), .int .i64 (.var 2)] = true := by
  by_cases g0 : 6 ≤ x ∧ x ≤ 15 ∧ 0 ≤ y ∧ y ≤ 0
  · exact ⟨6, 15, 0, 0, g0.1, g0.2.1, g0.2.2.1, g0.2.2.2, itab_A_7_6_15_0_0⟩
  by_cases g1 : 6 ≤ x ∧ x ≤ 15 ∧ 1 ≤ y ∧ y ≤ 15
  · exact ⟨6, 15, 1, 15, g1.1, g1.2.1, g1.2.2.1, g1.2.2.2, itab_A_7_6_15_1_15⟩
  by_cases g2 : 0 ≤ x ∧ x ≤ 0 ∧ 7 ≤ y ∧ y ≤ 15
  · exact ⟨0, 0, 7, 15, g2.1, g2.2.1, g2.2.2.1, g2.2.2.2, itab_A_7_0_0_7_15⟩
  by_cases g3 : 1 ≤ x ∧ x ≤ 5 ∧ 7 ≤ y ∧ y ≤ 15
  · exact ⟨1, 5, 7, 15, g3.1, g3.2.1, g3.2.2.1, g3.2.2.2, itab_A_7_1_5_7_15⟩
  · omega
theorem itab_N8 (x y : Nat) (hx : x ≤ 15) (hy : y ≤ 15) (h : 8 < x + 2 ∨ 8 < y + 1) : ∃ a b c d : Nat, a ≤ x ∧ x ≤ b ∧ c ≤ y ∧ y ≤ d ∧ runM 4 [⟨1, 15, a, b⟩, ⟨2, 15, c, d⟩] [.and 0 15 8] 3 [.int .i64 (.var 0), .int .i64 (.var 1), .int .i64 (.var 2)] = true := by
  by_cases g0 : 7 ≤ x ∧ x ≤ 15 ∧ 0 ≤ y ∧ y ≤ 0
  · exact ⟨7, 15, 0, 0, g0.1, g0.2.1, g0.2.2.1, g0.2.2.2, itab_A_8_7_15_0_0⟩
  by_cases g1 : 7 ≤ x ∧ x ≤ 15 ∧ 1 ≤ y ∧ y ≤ 15
  · exact ⟨7, 15, 1, 15, g1.1, g1.2.1, g1.2.2.1, g1.2.2.2, itab_A_8_7_15_1_15⟩
  by_cases g2 : 0 ≤ x ∧ x ≤ 0 ∧ 8 ≤ y ∧ y ≤ 15
  · exact ⟨0, 0, 8, 15, g2.1, g2.2.1, g2.2.2.1, g2.2.2.2, itab_A_8_0_0_8_15⟩
  by_cases g3 : 1 ≤ x ∧ x ≤ 6 ∧ 8 ≤ y ∧ y ≤ 15
  · exact ⟨1, 6, 8, 15, g3.1, g3.2.1, g3.2.2.1, g3.2.2.2, itab_A_8_1_6_8_15⟩
  · omega
theorem itab_N9 (x y : Nat) (hx : x ≤ 15) (hy : y ≤ 15) (h : 9 < x + 2 ∨ 9 < y + 1) : ∃ a b c d : Nat, a ≤ x ∧ x ≤ b ∧ c ≤ y ∧ y ≤ d ∧ runM 4 [⟨1, 15, a, b⟩, ⟨2, 15, c, d⟩] [.and 0 15 9] 3 [.int .i64 (.var 0), .int .i64 (.var 1), .int .i64 (.var 2)] = true := by
  by_cases g0 : 8 ≤ x ∧ x ≤ 15 ∧ 0 ≤ y ∧ y ≤ 0
  · exact ⟨8, 15, 0, 0, g0.1, g0.2.1, g0.2.2.1, g0.2.2.2, itab_A_9_8_15_0_0⟩
  by_cases g1 : 8 ≤ x ∧ x ≤ 15 ∧ 1 ≤ y ∧ y ≤ 15
  · exact ⟨8, 15, 1, 15, g1.1, g1.2.1, g1.2.2.1, g1.2.2.2, itab_A_9_8_15_1_15⟩
  by_cases g2 : 0 ≤ x ∧ x ≤ 0 ∧ 9 ≤ y ∧ y ≤ 15
  · exact ⟨0, 0, 9, 15, g2.1, g2.2.1, g2.2.2.1, g2.2.2.2, itab_A_9_0_0_9_15⟩
  by_cases g3 : 1 ≤ x ∧ x ≤ 7 ∧ 9 ≤ y ∧ y ≤ 15
  · exact ⟨1, 7, 9, 15, g3.1, g3.2.1, g3.2.2.1, g3.2.2.2, itab_A_9_1_7_9_15⟩
  · omega
theorem itab_N10 (x y : Nat) (hx : x ≤ 15) (hy : y ≤ 15) (h : 10 < x + 2 ∨ 10 < y + 1) : ∃ a b c d : Nat, a ≤ x ∧ x ≤ b ∧ c ≤ y ∧ y ≤ d ∧ runM 4 [⟨1, 15, a, b⟩, ⟨2, 15, c, d⟩] [.and 0 15 10] 3 [.int .i64 (.var 0), .int .i64 (.var 1), .int .i64 (.var 2)] = true := by
  by_cases g0 : 9 ≤ x ∧ x ≤ 15 ∧ 0 ≤ y ∧ y ≤ 0
  · exact ⟨9, 15, 0, 0, g0.1, g0.2.1, g0.2.2.1, g0.2.2.2, itab_A_10_9_15_0_0⟩
  by_cases g1 : 9 ≤ x ∧ x ≤ 15 ∧ 1 ≤ y ∧ y ≤ 15
  · exact ⟨9, 15, 1, 15, g1.1, g1.2.1, g1.2.2.1, g1.2.2.2, itab_A_10_9_15_1_15⟩
  by_cases g2 : 0 ≤ x ∧ x ≤ 0 ∧ 10 ≤ y ∧ y ≤ 15
  · exact ⟨0, 0, 10, 15, g2.1, g2.2.1, g2.2.2.1, g2.2.2.2, itab_A_10_0_0_10_15⟩
  by_cases g3 : 1 ≤ x ∧ x ≤ 8 ∧ 10 ≤ y ∧ y ≤ 15
  · exact ⟨1, 8, 10, 15, g3.1, g3.2.1, g3.2.2.1, g3.2.2.2, itab_A_10_1_8_10_15⟩
  · omega
theorem itab_N11 (x y : Nat) (hx : x ≤ 15) (hy : y ≤ 15) (h : 11 < x + 2 ∨ 11 < y + 1) : ∃ a b c d : Nat, a ≤ x ∧ x ≤ b ∧ c ≤ y ∧ y ≤ d ∧ runM 4 [⟨1, 15, a, b⟩, ⟨2, 15, c, d⟩] [.and 0 15 11] 3 [.int .i64 (.var 0), .int .i64 (.var 1), .int .i64 (.var 2)] = true := by
  by_cases g0 : 10 ≤ x ∧ x ≤ 15 ∧ 0 ≤ y ∧ y ≤ 0
  · exact ⟨10, 15, 0, 0, g0.1, g0.2.1, g0.2.2.1, g0.2.2.2, itab_A_11_10_15_0_0⟩
  by_cases g1 : 10 ≤ x ∧ x ≤ 15 ∧ 1 ≤ y ∧ y ≤ 15
  · exact ⟨10, 15, 1, 15, g1.1, g1.2.1, g1.2.2.1, g1.2.2.2, itab_A_11_10_15_1_15⟩
  by_cases g2 : 0 ≤ x ∧ x ≤ 0 ∧ 11 ≤ y ∧ y ≤ 15
  · exact ⟨0, 0, 11, 15, g2.1, g2.2.1, g2.2.2.1, g2.2.2.2, itab_A_11_0_0_11_15⟩
  by_cases g3 : 1 ≤ x ∧ x ≤ 9 ∧ 11 ≤ y ∧ y ≤ 15
  · exact ⟨1, 9, 11, 15, g3.1, g3.2.1, g3.2.2.1, g3.2.2.2, itab_A_11_1_9_11_15⟩
  · omega
theorem itab_N12 (x y : Nat) (hx : x ≤ 15) (hy : y ≤ 15) (h : 12 < x + 2 ∨ 12 < y + 1) : ∃ a b c d : Nat, a ≤ x ∧ x ≤ b ∧ c ≤ y ∧ y ≤ d ∧ runM 4 [⟨1, 15, a, b⟩, ⟨2, 15, c, d⟩] [.and 0 15 12] 3 [.int .i64 (.var 0), .int .i64 (.var 1), .int .i64 (.var 2)] = true := by
  by_cases g0 : 11 ≤ x ∧ x ≤ 15 ∧ 0 ≤ y ∧ y ≤ 0
  · exact ⟨11, 15, 0, 0, g0.1, g0.2.1, g0.2.2.1, g0.2.2.2, itab_A_12_11_15_0_0⟩
  by_cases g1 : 11 ≤ x ∧ x ≤ 15 ∧ 1 ≤ y ∧ y ≤ 15
  · exact ⟨11, 15, 1, 15, g1.1, g1.2.1, g1.2.2.1, g1.2.2.2, itab_A_12_11_15_1_15⟩
  by_cases g2 : 0 ≤ x ∧ x ≤ 0 ∧ 12 ≤ y ∧ y ≤ 15
  · exact ⟨0, 0, 12, 15, g2.1, g2.2.1, g2.2.2.1, g2.2.2.2, itab_A_12_0_0_12_15⟩
  by_cases g3 : 1 ≤ x ∧ x ≤ 10 ∧ 12 ≤ y ∧ y ≤ 15
  · exact ⟨1, 10, 12, 15, g3.1, g3.2.1, g3.2.2.1, g3.2.2.2, itab_A_12_1_10_12_15⟩
  · omega
theorem itab_N13 (x y : Nat) (hx : x ≤ 15) (hy : y ≤ 15) (h : 13 < x + 2 ∨ 13 < y + 1) : ∃ a b c d : Nat, a ≤ x ∧ x ≤ b ∧ c ≤ y ∧ y ≤ d ∧ runM 4 [⟨1, 15, a, b⟩, ⟨2, 15, c, d⟩] [.and 0 15 13] 3 [.int .i64 (.var 0), .int .i64 (.var 1), .int .i64 (.var 2)] = true := by
  by_cases g0 : 12 ≤ x ∧ x ≤ 15 ∧ 0 ≤ y ∧ y ≤ 0
  · exact ⟨12, 15, 0, 0, g0.1, g0.2.1, g0.2.2.1, g0.2.2.2, itab_A_13_12_15_0_0⟩
  by_cases g1 : 12 ≤ x ∧ x ≤ 15 ∧ 1 ≤ y ∧ y ≤ 15
  · exact ⟨12, 15, 1, 15, g1.1, g1.2.1, g1.2.2.1, g1.2.2.2, itab_A_13_12_15_1_15⟩
  by_cases g2 : 0 ≤ x ∧ x ≤ 0 ∧ 13 ≤ y ∧ y ≤ 15
  · exact ⟨0, 0, 13, 15, g2.1, g2.2.1, g2.2.2.1, g2.2.2.2, itab_A_13_0_0_13_15⟩
  by_cases g3 : 1 ≤ x ∧ x ≤ 11 ∧ 13 ≤ y ∧ y ≤ 15
  · exact ⟨1, 11, 13, 15, g3.1, g3.2.1, g3.2.2.1, g3.2.2.2, itab_A_13_1_11_13_15⟩
  · omega
theorem itab_N14 (x y : Nat) (hx : x ≤ 15) (hy : y ≤ 15) (h : 14 < x + 2 ∨ 14 < y + 1) : ∃ a b c d : Nat, a ≤ x ∧ x ≤ b ∧ c ≤ y ∧ y ≤ d ∧ runM 4 [⟨1, 15, a, b⟩, ⟨2, 15, c, d⟩] [.and 0 15 14] 3 [.int .i64 (.var 0), .int .i64 (.var 1), .int .i64 (.var 2)] = true := by
  by_cases g0 : 13 ≤ x ∧ x ≤ 15 ∧ 0 ≤ y ∧ y ≤ 0
  · exact ⟨13, 15, 0, 0, g0.1, g0.2.1, g0.2.2.1, g0.2.2.2, itab_A_14_13_15_0_0⟩
  by_cases g1 : 13 ≤ x ∧ x ≤ 15 ∧ 1 ≤ y ∧ y ≤ 15
  · exact ⟨13, 15, 1, 15, g1.1, g1.2.1, g1.2.2.1, g1.2.2.2, itab_A_14_13_15_1_15⟩
  by_cases g2 : 0 ≤ x ∧ x ≤ 0 ∧ 14 ≤ y ∧ y ≤ 15
  · exact ⟨0, 0, 14, 15, g2.1, g2.2.1, g2.2.2.1, g2.2.2.2, itab_A_14_0_0_14_15⟩
  by_cases g3 : 1 ≤ x ∧ x ≤ 12 ∧ 14 ≤ y ∧ y ≤ 15
  · exact ⟨1, 12, 14, 15, g3.1, g3.2.1, g3.2.2.1, g3.2.2.2, itab_A_14_1_12_14_15⟩
  · omega
theorem itab_N15 (x y : Nat) (hx : x ≤ 15) (hy : y ≤ 15) (h : 15 < x + 2 ∨ 15 < y + 1) : ∃ a b c d : Nat, a ≤ x ∧ x ≤ b ∧ c ≤ y ∧ y ≤ d ∧ runM 4 [⟨1, 15, a, b⟩, ⟨2, 15, c, d⟩] [.and 0 15 15] 3 [.int .i64 (.var 0), .int .i64 (.var 1), .int .i64 (.var 2)] = true := by
  by_cases g0 : 14 ≤ x ∧ x ≤ 15 ∧ 0 ≤ y ∧ y ≤ 0
  · exact ⟨14, 15, 0, 0, g0.1, g0.2.1, g0.2.2.1, g0.2.2.2, itab_A_15_14_15_0_0⟩
  by_cases g1 : 14 ≤ x ∧ x ≤ 15 ∧ 1 ≤ y ∧ y ≤ 15
  · exact ⟨14, 15, 1, 15, g1.1, g1.2.1, g1.2.2.1, g1.2.2.2, itab_A_15_14_15_1_15⟩
  by_cases g2 : 0 ≤ x ∧ x ≤ 0 ∧ 15 ≤ y ∧ y ≤ 15
  · exact ⟨0, 0, 15, 15, g2.1, g2.2.1, g2.2.2.1, g2.2.2.2, itab_A_15_0_0_15_15⟩
  by_cases g3 : 1 ≤ x ∧ x ≤ 13 ∧ 15 ≤ y ∧ y ≤ 15
  · exact ⟨1, 13, 15, 15, g3.1, g3.2.1, g3.2.2.1, g3.2.2.2, itab_A_15_1_13_15_15⟩
  · omega
theorem itab_N (s x y : Nat) (hs : s < 16) (hx : x ≤ 15) (hy : y ≤ 15) (h : s < x + 2 ∨ s < y + 1) : ∃ a b c d : Nat, a ≤ x ∧ x ≤ b ∧ c ≤ y ∧ y ≤ d ∧ runM 4 [⟨1, 15, a, b⟩, ⟨2, 15, c, d⟩] [.and 0 15 s] 3 [.int .i64 (.var 0), .int .i64 (.var 1), .int .i64 (.var 2)] = true := by
  rcases Nat.lt_or_ge s 8 with gs | gs
  · rcases Nat.lt_or_ge s 4 with gs | gs
    · rcases Nat.lt_or_ge s 2 with gs | gs
      · rcases Nat.lt_or_ge s 1 with gs | gs
        · obtain rfl : s = 0 := by omega
          exact itab_N0 x y hx hy h
        · obtain rfl : s = 1 := by omega
          exact itab_N1 x y hx hy h
      · rcases Nat.lt_or_ge s 3 with gs | gs
        · obtain rfl : s = 2 := by omega
          exact itab_N2 x y hx hy h
        · obtain rfl : s = 3 := by omega
          exact itab_N3 x y hx hy h
    · rcases Nat.lt_or_ge s 6 with gs | gs
      · rcases Nat.lt_or_ge s 5 with gs | gs
        · obtain rfl : s = 4 := by omega
          exact itab_N4 x y hx hy h
        · obtain rfl : s = 5 := by omega
          exact itab_N5 x y hx hy h
      · rcases Nat.lt_or_ge s 7 with gs | gs
        · obtain rfl : s = 6 := by omega
          exact itab_N6 x y hx hy h
        · obtain rfl : s = 7 := by omega
          exact itab_N7 x y hx hy h
  · rcases Nat.lt_or_ge s 12 with gs | gs
    · rcases Nat.lt_or_ge s 10 with gs | gs
      · rcases Nat.lt_or_ge s 9 with gs | gs
        · obtain rfl : s = 8 := by omega
          exact itab_N8 x y hx hy h
        · obtain rfl : s = 9 := by omega
          exact itab_N9 x y hx hy h
      · rcases Nat.lt_or_ge s 11 with gs | gs
        · obtain rfl : s = 10 := by omega
          exact itab_N10 x y hx hy h
        · obtain rfl : s = 11 := by omega
          exact itab_N11 x y hx hy h
    · rcases Nat.lt_or_ge s 14 with gs | gs
      · rcases Nat.lt_or_ge s 13 with gs | gs
        · obtain rfl : s = 12 := by omega
          exact itab_N12 x y hx hy h
        · obtain rfl : s = 13 := by omega
          exact itab_N13 x y hx hy h
      · rcases Nat.lt_or_ge s 15 with gs | gs
        · obtain rfl : s = 14 := by omega
          exact itab_N14 x y hx hy h
        · obtain rfl : s = 15 := by omega
          exact itab_N15 x y hx hy h
theorem itab_K2 (x y : Nat) (hx : x < 1) (hy : y < 2) : runM 4 [] [.and 0 15 2, .and 1 15 x, .and 2 15 y] 3 [.int .i64 (.var 0), .int .i64 (.var 1), .int .i64 (.var 2)] = true := by
  obtain rfl : x = 0 := by omega
  rcases Nat.lt_or_ge y 1 with gy | gy
  · obtain rfl : y = 0 := by omega
    exact itab_K_2_0_0
  · obtain rfl : y = 1 := by omega
    exact itab_K_2_0_1
theorem itab_K3 (x y : Nat) (hx : x < 2) (hy : y < 3) : runM 4 [] [.and 0 15 3, .and 1 15 x, .and 2 15 y] 3 [.int .i64 (.var 0), .int .i64 (.var 1), .int .i64 (.var 2)] = true := by
  rcases Nat.lt_or_ge x 1 with gx | gx
  · obtain rfl : x = 0 := by omega
    rcases Nat.lt_or_ge y 1 with gy | gy
    · obtain rfl : y = 0 := by omega
      exact itab_K_3_0_0
    · rcases Nat.lt_or_ge y 2 with gy | gy
      · obtain rfl : y = 1 := by omega
        exact itab_K_3_0_1
      · obtain rfl : y = 2 := by omega
        exact itab_K_3_0_2
  · obtain rfl : x = 1 := by omega
    rcases Nat.lt_or_ge y 1 with gy | gy
    · obtain rfl : y = 0 := by omega
      exact itab_K_3_1_0
    · rcases Nat.lt_or_ge y 2 with gy | gy
      · obtain rfl : y = 1 := by omega
        exact itab_K_3_1_1
      · obtain rfl : y = 2 := by omega
        exact itab_K_3_1_2
theorem itab_K4 (x y : Nat) (hx : x < 3) (hy : y < 4) : runM 4 [] [.and 0 15 4, .and 1 15 x, .and 2 15 y] 3 [.int .i64 (.var 0), .int .i64 (.var 1), .int .i64 (.var 2)] = true := by
  rcases Nat.lt_or_ge x 1 with gx | gx
  · obtain rfl : x = 0 := by omega
    rcases Nat.lt_or_ge y 2 with gy | gy
    · rcases Nat.lt_or_ge y 1 with gy | gy
      · obtain rfl : y = 0 := by omega
        exact itab_K_4_0_0
      · obtain rfl : y = 1 := by omega
        exact itab_K_4_0_1
    · rcases Nat.lt_or_ge y 3 with gy | gy
      · obtain rfl : y = 2 := by omega
        exact itab_K_4_0_2
      · obtain rfl : y = 3 := by omega
        exact itab_K_4_0_3
  · rcases Nat.lt_or_ge x 2 with gx | gx
    · obtain rfl : x = 1 := by omega
      rcases Nat.lt_or_ge y 2 with gy | gy
      · rcases Nat.lt_or_ge y 1 with gy | gy
        · obtain rfl : y = 0 := by omega
          exact itab_K_4_1_0
        · obtain rfl : y = 1 := by omega
          exact itab_K_4_1_1
      · rcases Nat.lt_or_ge y 3 with gy | gy
        · obtain rfl : y = 2 := by omega
          exact itab_K_4_1_2
        · obtain rfl : y = 3 := by omega
          exact itab_K_4_1_3
    · obtain rfl : x = 2 := by omega
      rcases Nat.lt_or_ge y 2 with gy | gy
      · rcases Nat.lt_or_ge y 1 with gy | gy
        · obtain rfl : y = 0 := by omega
          exact itab_K_4_2_0
        · obtain rfl : y = 1 := by omega
          exact itab_K_4_2_1
      · rcases Nat.lt_or_ge y 3 with gy | gy
        · obtain rfl : y = 2 := by omega
          exact itab_K_4_2_2
        · obtain rfl : y = 3 := by omega
          exact itab_K_4_2_3
theorem itab_K5 (x y : Nat) (hx : x < 4) (hy : y < 5) : runM 4 [] [.and 0 15 5, .and 1 15 x, .and 2 15 y] 3 [.int .i64 (.var 0), .int .i64 (.var 1), .int .i64 (.var 2)] = true := by
  rcases Nat.lt_or_ge x 2 with gx | gx
  · rcases Nat.lt_or_ge x 1 with gx | gx
    · obtain rfl : x = 0 := by omega
      rcases Nat.lt_or_ge y 2 with gy | gy
      · rcases Nat.lt_or_ge y 1 with gy | gy
        · obtain rfl : y = 0 := by omega
          exact itab_K_5_0_0
        · obtain rfl : y = 1 := by omega
          exact itab_K_5_0_1
      · rcases Nat.lt_or_ge y 3 with gy | gy
        · obtain rfl : y = 2 := by omega
          exact itab_K_5_0_2
        · rcases Nat.lt_or_ge y 4 with gy | gy
          · obtain rfl : y = 3 := by omega
            exact itab_K_5_0_3
          · obtain rfl : y = 4 := by omega
            exact itab_K_5_0_4
    · obtain rfl : x = 1 := by omega
      rcases Nat.lt_or_ge y 2 with gy | gy
      · rcases Nat.lt_or_ge y 1 with gy | gy
        · obtain rfl : y = 0 := by omega
          exact itab_K_5_1_0
        · obtain rfl : y = 1 := by omega
          exact itab_K_5_1_1
      · rcases Nat.lt_or_ge y 3 with gy | gy
        · obtain rfl : y = 2 := by omega
          exact itab_K_5_1_2
        · rcases Nat.lt_or_ge y 4 with gy | gy
          · obtain rfl : y = 3 := by omega
            exact itab_K_5_1_3
          · obtain rfl : y = 4 := by omega
            exact itab_K_5_1_4
  · rcases Nat.lt_or_ge x 3 with gx | gx
    · obtain rfl : x = 2 := by omega
      rcases Nat.lt_or_ge y 2 with gy | gy
      · rcases Nat.lt_or_ge y 1 with gy | gy
        · obtain rfl : y = 0 := by omega
          exact itab_K_5_2_0
        · obtain rfl : y = 1 := by omega
          exact itab_K_5_2_1
      · rcases Nat.lt_or_ge y 3 with gy | gy
        · obtain rfl : y = 2 := by omega
          exact itab_K_5_2_2
        · rcases Nat.lt_or_ge y 4 with gy | gy
          · obtain rfl : y = 3 := by omega
            exact itab_K_5_2_3
          · obtain rfl : y = 4 := by omega
            exact itab_K_5_2_4
    · obtain rfl : x = 3 := by omega
      rcases Nat.lt_or_ge y 2 with gy | gy
      · rcases Nat.lt_or_ge y 1 with gy | gy
        · obtain rfl : y = 0 := by omega
          exact itab_K_5_3_0
        · obtain rfl : y = 1 := by omega
          exact itab_K_5_3_1
      · rcases Nat.lt_or_ge y 3 with gy | gy
        · obtain rfl : y = 2 := by omega
          exact itab_K_5_3_2
        · rcases Nat.lt_or_ge y 4 with gy | gy
          · obtain rfl : y = 3 := by omega
            exact itab_K_5_3_3
          · obtain rfl : y = 4 := by omega
            exact itab_K_5_3_4
theorem itab_K6 (x y : Nat) (hx : x < 5) (hy : y < 6) : runM 4 [] [.and 0 15 6, .and 1 15 x, .and 2 15 y] 3 [.int .i64 (.var 0), .int .i64 (.var 1), .int .i64 (.var 2)] = true := by
  rcases Nat.lt_or_ge x 2 with gx | gx
  · rcases Nat.lt_or_ge x 1 with gx | gx
    · obtain rfl : x = 0 := by omega
      rcases Nat.lt_or_ge y 3 with gy | gy
      · rcases Nat.lt_or_ge y 1 with gy | gy
        · obtain rfl : y = 0 := by omega
          exact itab_K_6_0_0
        · rcases Nat.lt_or_ge y 2 with gy | gy
          · obtain rfl : y = 1 := by omega
            exact itab_K_6_0_1
          · obtain rfl : y = 2 := by omega
            exact itab_K_6_0_2
      · rcases Nat.lt_or_ge y 4 with gy | gy
        · obtain rfl : y = 3 := by omega
          exact itab_K_6_0_3
        · rcases Nat.lt_or_ge y 5 with gy | gy
          · obtain rfl : y = 4 := by omega
            exact itab_K_6_0_4
          · obtain rfl : y = 5 := by omega
            exact itab_K_6_0_5
    · obtain rfl : x = 1 := by omega
      rcases Nat.lt_or_ge y 3 with gy | gy
      · rcases Nat.lt_or_ge y 1 with gy | gy
        · obtain rfl : y = 0 := by omega
          exact itab_K_6_1_0
        · rcases Nat.lt_or_ge y 2 with gy | gy
          · obtain rfl : y = 1 := by omega
            exact itab_K_6_1_1
          · obtain rfl : y = 2 := by omega
            exact itab_K_6_1_2
      · rcases Nat.lt_or_ge y 4 with gy | gy
        · obtain rfl : y = 3 := by omega
          exact itab_K_6_1_3
        · rcases Nat.lt_or_ge y 5 with gy | gy
          · obtain rfl : y = 4 := by omega
            exact itab_K_6_1_4
          · obtain rfl : y = 5 := by omega
            exact itab_K_6_1_5
  · rcases Nat.lt_or_ge x 3 with gx | gx
    · obtain rfl : x = 2 := by omega
      rcases Nat.lt_or_ge y 3 with gy | gy
      · rcases Nat.lt_or_ge y 1 with gy | gy
        · obtain rfl : y = 0 := by omega
          exact itab_K_6_2_0
        · rcases Nat.lt_or_ge y 2 with gy | gy
          · obtain rfl : y = 1 := by omega
            exact itab_K_6_2_1
          · obtain rfl : y = 2 := by omega
            exact itab_K_6_2_2
      · rcases Nat.lt_or_ge y 4 with gy | gy
        · obtain rfl : y = 3 := by omega
          exact itab_K_6_2_3
        · rcases Nat.lt_or_ge y 5 with gy | gy
          · obtain rfl : y = 4 := by omega
            exact itab_K_6_2_4
          · obtain rfl : y = 5 := by omega
            exact itab_K_6_2_5
    · rcases Nat.lt_or_ge x 4 with gx | gx
      · obtain rfl : x = 3 := by omega
        rcases Nat.lt_or_ge y 3 with gy | gy
        · rcases Nat.lt_or_ge y 1 with gy | gy
          · obtain rfl : y = 0 := by omega
            exact itab_K_6_3_0
          · rcases Nat.lt_or_ge y 2 with gy | gy
            · obtain rfl : y = 1 := by omega
              exact itab_K_6_3_1
            · obtain rfl : y = 2 := by omega
              exact itab_K_6_3_2
        · rcases Nat.lt_or_ge y 4 with gy | gy
          · obtain rfl : y = 3 := by omega
            exact itab_K_6_3_3
          · rcases Nat.lt_or_ge y 5 with gy | gy
            · obtain rfl : y = 4 := by omega
              exact itab_K_6_3_4
            · obtain rfl : y = 5 := by omega
              exact itab_K_6_3_5
      · obtain rfl : x = 4 := by omega
        rcases Nat.lt_or_ge y 3 with gy | gy
        · rcases Nat.lt_or_ge y 1 with gy | gy
          · obtain rfl : y = 0 := by omega
            exact itab_K_6_4_0
          · rcases Nat.lt_or_ge y 2 with gy | gy
            · obtain rfl : y = 1 := by omega
              exact itab_K_6_4_1
            · obtain rfl : y = 2 := by omega
              exact itab_K_6_4_2
        · rcases Nat.lt_or_ge y 4 with gy | gy
          · obtain rfl : y = 3 := by omega
            exact itab_K_6_4_3
          · rcases Nat.lt_or_ge y 5 with gy | gy
            · obtain rfl : y = 4 := by omega
              exact itab_K_6_4_4
            · obtain rfl : y = 5 := by omega
              exact itab_K_6_4_5
theorem itab_K7 (x y : Nat) (hx : x < 6) (hy : y < 7) : runM 4 [] [.and 0 15 7, .and 1 15 x, .and 2 15 y] 3 [.int .i64 (.var 0), .int .i64 (.var 1), .int .i64 (.var 2)] = true := by
  rcases Nat.lt_or_ge x 3 with gx | gx
  · rcases Nat.lt_or_ge x 1 with gx | gx
    · obtain rfl : x = 0 := by omega
      rcases Nat.lt_or_ge y 3 with gy | gy
      · rcases Nat.lt_or_ge y 1 with gy | gy
        · obtain rfl : y = 0 := by omega
          exact itab_K_7_0_0
        · rcases Nat.lt_or_ge y 2 with gy | gy
          · obtain rfl : y = 1 := by omega
            exact itab_K_7_0_1
          · obtain rfl : y = 2 := by omega
            exact itab_K_7_0_2
      · rcases Nat.lt_or_ge y 5 with gy | gy
        · rcases Nat.lt_or_ge y 4 with gy | gy
          · obtain rfl : y = 3 := by omega
            exact itab_K_7_0_3
          · obtain rfl : y = 4 := by omega
            exact itab_K_7_0_4
        · rcases Nat.lt_or_ge y 6 with gy | gy
          · obtain rfl : y = 5 := by omega
            exact itab_K_7_0_5
          · obtain rfl : y = 6 := by omega
            exact itab_K_7_0_6
    · rcases Nat.lt_or_ge x 2 with gx | gx
      · obtain rfl : x = 1 := by omega
        rcases Nat.lt_or_ge y 3 with gy | gy
        · rcases Nat.lt_or_ge y 1 with gy | gy
          · obtain rfl : y = 0 := by omega
            exact itab_K_7_1_0
          · rcases Nat.lt_or_ge y 2 with gy | gy
            · obtain rfl : y = 1 := by omega
              exact itab_K_7_1_1
            · obtain rfl : y = 2 := by omega
              exact itab_K_7_1_2
        · rcases Nat.lt_or_ge y 5 with gy | gy
          · rcases Nat.lt_or_ge y 4 with gy | gy
            · obtain rfl : y = 3 := by omega
              exact itab_K_7_1_3
            · obtain rfl : y = 4 := by omega
              exact itab_K_7_1_4
          · rcases Nat.lt_or_ge y 6 with gy | gy
            · obtain rfl : y = 5 := by omega
              exact itab_K_7_1_5
            · obtain rfl : y = 6 := by omega
              exact itab_K_7_1_6
      · obtain rfl : x = 2 := by omega
        rcases Nat.lt_or_ge y 3 with gy | gy
        · rcases Nat.lt_or_ge y 1 with gy | gy
          · obtain rfl : y = 0 := by omega
            exact itab_K_7_2_0
          · rcases Nat.lt_or_ge y 2 with gy | gy
            · obtain rfl : y = 1 := by omega
              exact itab_K_7_2_1
            · obtain rfl : y = 2 := by omega
              exact itab_K_7_2_2
        · rcases Nat.lt_or_ge y 5 with gy | gy
          · rcases Nat.lt_or_ge y 4 with gy | gy
            · obtain rfl : y = 3 := by omega
              exact itab_K_7_2_3
            · obtain rfl : y = 4 := by omega
              exact itab_K_7_2_4
          · rcases Nat.lt_or_ge y 6 with gy | gy
            · obtain rfl : y = 5 := by omega
              exact itab_K_7_2_5
            · obtain rfl : y = 6 := by omega
              exact itab_K_7_2_6
  · rcases Nat.lt_or_ge x 4 with gx | gx
    · obtain rfl : x = 3 := by omega
      rcases Nat.lt_or_ge y 3 with gy | gy
      · rcases Nat.lt_or_ge y 1 with gy | gy
        · obtain rfl : y = 0 := by omega
          exact itab_K_7_3_0
        · rcases Nat.lt_or_ge y 2 with gy | gy
          · obtain rfl : y = 1 := by omega
            exact itab_K_7_3_1
          · obtain rfl : y = 2 := by omega
            exact itab_K_7_3_2
      · rcases Nat.lt_or_ge y 5 with gy | gy
        · rcases Nat.lt_or_ge y 4 with gy | gy
          · obtain rfl : y = 3 := by omega
            exact itab_K_7_3_3
          · obtain rfl : y = 4 := by omega
            exact itab_K_7_3_4
        · rcases Nat.lt_or_ge y 6 with gy | gy
          · obtain rfl : y = 5 := by omega
            exact itab_K_7_3_5
          · obtain rfl : y = 6 := by omega
            exact itab_K_7_3_6
    · rcases Nat.lt_or_ge x 5 with gx | gx
      · obtain rfl : x = 4 := by omega
        rcases Nat.lt_or_ge y 3 with gy | gy
        · rcases Nat.lt_or_ge y 1 with gy | gy
          · obtain rfl : y = 0 := by omega
            exact itab_K_7_4_0
          · rcases Nat.lt_or_ge y 2 with gy | gy
            · obtain rfl : y = 1 := by omega
              exact itab_K_7_4_1
            · obtain rfl : y = 2 := by omega
              exact itab_K_7_4_2
        · rcases Nat.lt_or_ge y 5 with gy | gy
          · rcases Nat.lt_or_ge y 4 with gy | gy
            · obtain rfl : y = 3 := by omega
              exact itab_K_7_4_3
            · obtain rfl : y = 4 := by omega
              exact itab_K_7_4_4
          · rcases Nat.lt_or_ge y 6 with gy | gy
            · obtain rfl : y = 5 := by omega
              exact itab_K_7_4_5
            · obtain rfl : y = 6 := by omega
              exact itab_K_7_4_6
      · obtain rfl : x = 5 := by omega
        rcases Nat.lt_or_ge y 3 with gy | gy
        · rcases Nat.lt_or_ge y 1 with gy | gy
          · obtain rfl : y = 0 := by omega
            exact itab_K_7_5_0
          · rcases Nat.lt_or_ge y 2 with gy | gy
            · obtain rfl : y = 1 := by omega
              exact itab_K_7_5_1
            · obtain rfl : y = 2 := by omega
              exact itab_K_7_5_2
        · rcases Nat.lt_or_ge y 5 with gy | gy
          · rcases Nat.lt_or_ge y 4 with gy | gy
            · obtain rfl : y = 3 := by omega
              exact itab_K_7_5_3
            · obtain rfl : y = 4 := by omega
              exact itab_K_7_5_4
          · rcases Nat.lt_or_ge y 6 with gy | gy
            · obtain rfl : y = 5 := by omega
              exact itab_K_7_5_5
            · obtain rfl : y = 6 := by omega
              exact itab_K_7_5_6
theorem itab_K8 (x y : Nat) (hx : x < 7) (hy : y < 8) : runM 4 [] [.and 0 15 8, .and 1 15 x, .and 2 15 y] 3 [.int .i64 (.var 0), .int .i64 (.var 1), .int .i64 (.var 2)] = true := by
  rcases Nat.lt_or_ge x 3 with gx | gx
  · rcases Nat.lt_or_ge x 1 with gx | gx
    · obtain rfl : x = 0 := by omega
      rcases Nat.lt_or_ge y 4 with gy | gy
      · rcases Nat.lt_or_ge y 2 with gy | gy
        · rcases Nat.lt_or_ge y 1 with gy | gy
          · obtain rfl : y = 0 := by omega
            exact itab_K_8_0_0
          · obtain rfl : y = 1 := by omega
            exact itab_K_8_0_1
        · rcases Nat.lt_or_ge y 3 with gy | gy
          · obtain rfl : y = 2 := by omega
            exact itab_K_8_0_2
          · obtain rfl : y = 3 := by omega
            exact itab_K_8_0_3
      · rcases Nat.lt_or_ge y 6 with gy | gy
        · rcases Nat.lt_or_ge y 5 with gy | gy
          · obtain rfl : y = 4 := by omega
            exact itab_K_8_0_4
          · obtain rfl : y = 5 := by omega
            exact itab_K_8_0_5
        · rcases Nat.lt_or_ge y 7 with gy | gy
          · obtain rfl : y = 6 := by omega
            exact itab_K_8_0_6
          · obtain rfl : y = 7 := by omega
            exact itab_K_8_0_7
    · rcases Nat.lt_or_ge x 2 with gx | gx
      · obtain rfl : x = 1 := by omega
        rcases Nat.lt_or_ge y 4 with gy | gy
        · rcases Nat.lt_or_ge y 2 with gy | gy
          · rcases Nat.lt_or_ge y 1 with gy | gy
            · obtain rfl : y = 0 := by omega
              exact itab_K_8_1_0
            · obtain rfl : y = 1 := by omega
              exact itab_K_8_1_1
          · rcases Nat.lt_or_ge y 3 with gy | gy
            · obtain rfl : y = 2 := by omega
              exact itab_K_8_1_2
            · obtain rfl : y = 3 := by omega
              exact itab_K_8_1_3
        · rcases Nat.lt_or_ge y 6 with gy | gy
          · rcases Nat.lt_or_ge y 5 with gy | gy
            · obtain rfl : y = 4 := by omega
              exact itab_K_8_1_4
            · obtain rfl : y = 5 := by omega
              exact itab_K_8_1_5
          · rcases Nat.lt_or_ge y 7 with gy | gy
            · obtain rfl : y = 6 := by omega
              exact itab_K_8_1_6
            · obtain rfl : y = 7 := by omega
              exact itab_K_8_1_7
      · obtain rfl : x = 2 := by omega
        rcases Nat.lt_or_ge y 4 with gy | gy
        · rcases Nat.lt_or_ge y 2 with gy | gy
          · rcases Nat.lt_or_ge y 1 with gy | gy
            · obtain rfl : y = 0 := by omega
              exact itab_K_8_2_0
            · obtain rfl : y = 1 := by omega
              exact itab_K_8_2_1
          · rcases Nat.lt_or_ge y 3 with gy | gy
            · obtain rfl : y = 2 := by omega
              exact itab_K_8_2_2
            · obtain rfl : y = 3 := by omega
              exact itab_K_8_2_3
        · rcases Nat.lt_or_ge y 6 with gy | gy
          · rcases Nat.lt_or_ge y 5 with gy | gy
            · obtain rfl : y = 4 := by omega
              exact itab_K_8_2_4
            · obtain rfl : y = 5 := by omega
              exact itab_K_8_2_5
          · rcases Nat.lt_or_ge y 7 with gy | gy
            · obtain rfl : y = 6 := by omega
              exact itab_K_8_2_6
            · obtain rfl : y = 7 := by omega
              exact itab_K_8_2_7
  · rcases Nat.lt_or_ge x 5 with gx | gx
    · rcases Nat.lt_or_ge x 4 with gx | gx
      · obtain rfl : x = 3 := by omega
        rcases Nat.lt_or_ge y 4 with gy | gy
        · rcases Nat.lt_or_ge y 2 with gy | gy
          · rcases Nat.lt_or_ge y 1 with gy | gy
            · obtain rfl : y = 0 := by omega
              exact itab_K_8_3_0
            · obtain rfl : y = 1 := by omega
              exact itab_K_8_3_1
          · rcases Nat.lt_or_ge y 3 with gy | gy
            · obtain rfl : y = 2 := by omega
              exact itab_K_8_3_2
            · obtain rfl : y = 3 := by omega
              exact itab_K_8_3_3
        · rcases Nat.lt_or_ge y 6 with gy | gy
          · rcases Nat.lt_or_ge y 5 with gy | gy
            · obtain rfl : y = 4 := by omega
              exact itab_K_8_3_4
            · obtain rfl : y = 5 := by omega
              exact itab_K_8_3_5
          · rcases Nat.lt_or_ge y 7 with gy | gy
            · obtain rfl : y = 6 := by omega
              exact itab_K_8_3_6
            · obtain rfl : y = 7 := by omega
              exact itab_K_8_3_7
      · obtain rfl : x = 4 := by omega
        rcases Nat.lt_or_ge y 4 with gy | gy
        · rcases Nat.lt_or_ge y 2 with gy | gy
          · rcases Nat.lt_or_ge y 1 with gy | gy
            · obtain rfl : y = 0 := by omega
              exact itab_K_8_4_0
            · obtain rfl : y = 1 := by omega
              exact itab_K_8_4_1
          · rcases Nat.lt_or_ge y 3 with gy | gy
            · obtain rfl : y = 2 := by omega
              exact itab_K_8_4_2
            · obtain rfl : y = 3 := by omega
              exact itab_K_8_4_3
        · rcases Nat.lt_or_ge y 6 with gy | gy
          · rcases Nat.lt_or_ge y 5 with gy | gy
            · obtain rfl : y = 4 := by omega
              exact itab_K_8_4_4
            · obtain rfl : y = 5 := by omega
              exact itab_K_8_4_5
          · rcases Nat.lt_or_ge y 7 with gy | gy
            · obtain rfl : y = 6 := by omega
              exact itab_K_8_4_6
            · obtain rfl : y = 7 := by omega
              exact itab_K_8_4_7
    · rcases Nat.lt_or_ge x 6 with gx | gx
      · obtain rfl : x = 5 := by omega
        rcases Nat.lt_or_ge y 4 with gy | gy
        · rcases Nat.lt_or_ge y 2 with gy | gy
          · rcases Nat.lt_or_ge y 1 with gy | gy
            · obtain rfl : y = 0 := by omega
              exact itab_K_8_5_0
            · obtain rfl : y = 1 := by omega
              exact itab_K_8_5_1
          · rcases Nat.lt_or_ge y 3 with gy | gy
            · obtain rfl : y = 2 := by omega
              exact itab_K_8_5_2
            · obtain rfl : y = 3 := by omega
              exact itab_K_8_5_3
        · rcases Nat.lt_or_ge y 6 with gy | gy
          · rcases Nat.lt_or_ge y 5 with gy | gy
            · obtain rfl : y = 4 := by omega
              exact itab_K_8_5_4
            · obtain rfl : y = 5 := by omega
              exact itab_K_8_5_5
          · rcases Nat.lt_or_ge y 7 with gy | gy
            · obtain rfl : y = 6 := by omega
              exact itab_K_8_5_6
            · obtain rfl : y = 7 := by omega
              exact itab_K_8_5_7
      · obtain rfl : x = 6 := by omega
        rcases Nat.lt_or_ge y 4 with gy | gy
        · rcases Nat.lt_or_ge y 2 with gy | gy
          · rcases Nat.lt_or_ge y 1 with gy | gy
            · obtain rfl : y = 0 := by omega
              exact itab_K_8_6_0
            · obtain rfl : y = 1 := by omega
              exact itab_K_8_6_1
          · rcases Nat.lt_or_ge y 3 with gy | gy
            · obtain rfl : y = 2 := by omega
              exact itab_K_8_6_2
            · obtain rfl : y = 3 := by omega
              exact itab_K_8_6_3
        · rcases Nat.lt_or_ge y 6 with gy | gy
          · rcases Nat.lt_or_ge y 5 with gy | gy
            · obtain rfl : y = 4 := by omega
              exact itab_K_8_6_4
            · obtain rfl : y = 5 := by omega
              exact itab_K_8_6_5
          · rcases Nat.lt_or_ge y 7 with gy | gy
            · obtain rfl : y = 6 := by omega
              exact itab_K_8_6_6
            · obtain rfl : y = 7 := by omega
              exact itab_K_8_6_7
theorem itab_K9 (x y : Nat) (hx : x < 8) (hy : y < 9) : runM 4 [] [.and 0 15 9, .and 1 15 x, .and 2 15 y] 3 [.int .i64 (.var 0), .int .i64 (.var 1), .int .i64 (.var 2)] = true := by
  rcases Nat.lt_or_ge x 4 with gx | gx
  · rcases Nat.lt_or_ge x 2 with gx | gx
    · rcases Nat.lt_or_ge x 1 with gx | gx
      · obtain rfl : x = 0 := by omega
        rcases Nat.lt_or_ge y 4 with gy | gy
        · rcases Nat.lt_or_ge y 2 with gy | gy
          · rcases Nat.lt_or_ge y 1 with gy | gy
            · obtain rfl : y = 0 := by omega
              exact itab_K_9_0_0
            · obtain rfl : y = 1 := by omega
              exact itab_K_9_0_1
          · rcases Nat.lt_or_ge y 3 with gy | gy
            · obtain rfl : y = 2 := by omega
              exact itab_K_9_0_2
            · obtain rfl : y = 3 := by omega
              exact itab_K_9_0_3
        · rcases Nat.lt_or_ge y 6 with gy | gy
          · rcases Nat.lt_or_ge y 5 with gy | gy
            · obtain rfl : y = 4 := by omega
              exact itab_K_9_0_4
            · obtain rfl : y = 5 := by omega
              exact itab_K_9_0_5
          · rcases Nat.lt_or_ge y 7 with gy | gy
            · obtain rfl : y = 6 := by omega
              exact itab_K_9_0_6
            · rcases Nat.lt_or_ge y 8 with gy | gy
              · obtain rfl : y = 7 := by omega
                exact itab_K_9_0_7
              · obtain rfl : y = 8 := by omega
                exact itab_K_9_0_8
      · obtain rfl : x = 1 := by omega
        rcases Nat.lt_or_ge y 4 with gy | gy
        · rcases Nat.lt_or_ge y 2 with gy | gy
          · rcases Nat.lt_or_ge y 1 with gy | gy
            · obtain rfl : y = 0 := by omega
              exact itab_K_9_1_0
            · obtain rfl : y = 1 := by omega
              exact itab_K_9_1_1
          · rcases Nat.lt_or_ge y 3 with gy | gy
            · obtain rfl : y = 2 := by omega
              exact itab_K_9_1_2
            · obtain rfl : y = 3 := by omega
              exact itab_K_9_1_3
        · rcases Nat.lt_or_ge y 6 with gy | gy
          · rcases Nat.lt_or_ge y 5 with gy | gy
            · obtain rfl : y = 4 := by omega
              exact itab_K_9_1_4
            · obtain rfl : y = 5 := by omega
              exact itab_K_9_1_5
          · rcases Nat.lt_or_ge y 7 with gy | gy
            · obtain rfl : y = 6 := by omega
              exact itab_K_9_1_6
            · rcases Nat.lt_or_ge y 8 with gy | gy
              · obtain rfl : y = 7 := by omega
                exact itab_K_9_1_7
              · obtain rfl : y = 8 := by omega
                exact itab_K_9_1_8
    · rcases Nat.lt_or_ge x 3 with gx | gx
      · obtain rfl : x = 2 := by omega
        rcases Nat.lt_or_ge y 4 with gy | gy
        · rcases Nat.lt_or_ge y 2 with gy | gy
          · rcases Nat.lt_or_ge y 1 with gy | gy
            · obtain rfl : y = 0 := by omega
              exact itab_K_9_2_0
            · obtain rfl : y = 1 := by omega
              exact itab_K_9_2_1
          · rcases Nat.lt_or_ge y 3 with gy | gy
            · obtain rfl : y = 2 := by omega
              exact itab_K_9_2_2
            · obtain rfl : y = 3 := by omega
              exact itab_K_9_2_3
        · rcases Nat.lt_or_ge y 6 with gy | gy
          · rcases Nat.lt_or_ge y 5 with gy | gy
            · obtain rfl : y = 4 := by omega
              exact itab_K_9_2_4
            · obtain rfl : y = 5 := by omega
              exact itab_K_9_2_5
          · rcases Nat.lt_or_ge y 7 with gy | gy
            · obtain rfl : y = 6 := by omega
              exact itab_K_9_2_6
            · rcases Nat.lt_or_ge y 8 with gy | gy
              · obtain rfl : y = 7 := by omega
                exact itab_K_9_2_7
              · obtain rfl : y = 8 := by omega
                exact itab_K_9_2_8
      · obtain rfl : x = 3 := by omega
        rcases Nat.lt_or_ge y 4 with gy | gy
        · rcases Nat.lt_or_ge y 2 with gy | gy
          · rcases Nat.lt_or_ge y 1 with gy | gy
            · obtain rfl : y = 0 := by omega
              exact itab_K_9_3_0
            · obtain rfl : y = 1 := by omega
              exact itab_K_9_3_1
          · rcases Nat.lt_or_ge y 3 with gy | gy
            · obtain rfl : y = 2 := by omega
              exact itab_K_9_3_2
            · obtain rfl : y = 3 := by omega
              exact itab_K_9_3_3
        · rcases Nat.lt_or_ge y 6 with gy | gy
          · rcases Nat.lt_or_ge y 5 with gy | gy
            · obtain rfl : y = 4 := by omega
              exact itab_K_9_3_4
            · obtain rfl : y = 5 := by omega
              exact itab_K_9_3_5
          · rcases Nat.lt_or_ge y 7 with gy | gy
            · obtain rfl : y = 6 := by omega
              exact itab_K_9_3_6
            · rcases Nat.lt_or_ge y 8 with gy | gy
              · obtain rfl : y = 7 := by omega
                exact itab_K_9_3_7
              · obtain rfl : y = 8 := by omega
                exact itab_K_9_3_8
  · rcases Nat.lt_or_ge x 6 with gx | gx
    · rcases Nat.lt_or_ge x 5 with gx | gx
      · obtain rfl : x = 4 := by omega
        rcases Nat.lt_or_ge y 4 with gy | gy
        · rcases Nat.lt_or_ge y 2 with gy | gy
          · rcases Nat.lt_or_ge y 1 with gy | gy
            · obtain rfl : y = 0 := by omega
              exact itab_K_9_4_0
            · obtain rfl : y = 1 := by omega
              exact itab_K_9_4_1
          · rcases Nat.lt_or_ge y 3 with gy | gy
            · obtain rfl : y = 2 := by omega
              exact itab_K_9_4_2
            · obtain rfl : y = 3 := by omega
              exact itab_K_9_4_3
        · rcases Nat.lt_or_ge y 6 with gy | gy
          · rcases Nat.lt_or_ge y 5 with gy | gy
            · obtain rfl : y = 4 := by omega
              exact itab_K_9_4_4
            · obtain rfl : y = 5 := by omega
              exact itab_K_9_4_5
          · rcases Nat.lt_or_ge y 7 with gy | gy
            · obtain rfl : y = 6 := by omega
              exact itab_K_9_4_6
            · rcases Nat.lt_or_ge y 8 with gy | gy
              · obtain rfl : y = 7 := by omega
                exact itab_K_9_4_7
              · obtain rfl : y = 8 := by omega
                exact itab_K_9_4_8
      · obtain rfl : x = 5 := by omega
        rcases Nat.lt_or_ge y 4 with gy | gy
        · rcases Nat.lt_or_ge y 2 with gy | gy
          · rcases Nat.lt_or_ge y 1 with gy | gy
            · obtain rfl : y = 0 := by omega
              exact itab_K_9_5_0
            · obtain rfl : y = 1 := by omega
              exact itab_K_9_5_1
          · rcases Nat.lt_or_ge y 3 with gy | gy
            · obtain rfl : y = 2 := by omega
              exact itab_K_9_5_2
            · obtain rfl : y = 3 := by omega
              exact itab_K_9_5_3
        · rcases Nat.lt_or_ge y 6 with gy | gy
          · rcases Nat.lt_or_ge y 5 with gy | gy
            · obtain rfl : y = 4 := by omega
              exact itab_K_9_5_4
            · obtain rfl : y = 5 := by omega
              exact itab_K_9_5_5
          · rcases Nat.lt_or_ge y 7 with gy | gy
            · obtain rfl : y = 6 := by omega
              exact itab_K_9_5_6
            · rcases Nat.lt_or_ge y 8 with gy | gy
              · obtain rfl : y = 7 := by omega
                exact itab_K_9_5_7
              · obtain rfl : y = 8 := by omega
                exact itab_K_9_5_8
    · rcases Nat.lt_or_ge x 7 with gx | gx
      · obtain rfl : x = 6 := by omega
        rcases Nat.lt_or_ge y 4 with gy | gy
        · rcases Nat.lt_or_ge y 2 with gy | gy
          · rcases Nat.lt_or_ge y 1 with gy | gy
            · obtain rfl : y = 0 := by omega
              exact itab_K_9_6_0
            · obtain rfl : y = 1 := by omega
              exact itab_K_9_6_1
          · rcases Nat.lt_or_ge y 3 with gy | gy
            · obtain rfl : y = 2 := by omega
              exact itab_K_9_6_2
            · obtain rfl : y = 3 := by omega
              exact itab_K_9_6_3
        · rcases Nat.lt_or_ge y 6 with gy | gy
          · rcases Nat.lt_or_ge y 5 with gy | gy
            · obtain rfl : y = 4 := by omega
              exact itab_K_9_6_4
            · obtain rfl : y = 5 := by omega
              exact itab_K_9_6_5
          · rcases Nat.lt_or_ge y 7 with gy | gy
            · obtain rfl : y = 6 := by omega
              exact itab_K_9_6_6
            · rcases Nat.lt_or_ge y 8 with gy | gy
              · obtain rfl : y = 7 := by omega
                exact itab_K_9_6_7
              · obtain rfl : y = 8 := by omega
                exact itab_K_9_6_8
      · obtain rfl : x = 7 := by omega
        rcases Nat.lt_or_ge y 4 with gy | gy
        · rcases Nat.lt_or_ge y 2 with gy | gy
          · rcases Nat.lt_or_ge y 1 with gy | gy
            · obtain rfl : y = 0 := by omega
              exact itab_K_9_7_0
            · obtain rfl : y = 1 := by omega
              exact itab_K_9_7_1
          · rcases Nat.lt_or_ge y 3 with gy | gy
            · obtain rfl : y = 2 := by omega
              exact itab_K_9_7_2
            · obtain rfl : y = 3 := by omega
              exact itab_K_9_7_3
        · rcases Nat.lt_or_ge y 6 with gy | gy
          · rcases Nat.lt_or_ge y 5 with gy | gy
            · obtain rfl : y = 4 := by omega
              exact itab_K_9_7_4
            · obtain rfl : y = 5 := by omega
              exact itab_K_9_7_5
          · rcases Nat.lt_or_ge y 7 with gy | gy
            · obtain rfl : y = 6 := by omega
              exact itab_K_9_7_6
            · rcases Nat.lt_or_ge y 8 with gy | gy
              · obtain rfl : y = 7 := by omega
                exact itab_K_9_7_7
              · obtain rfl : y = 8 := by omega
                exact itab_K_9_7_8
theorem itab_K10 (x y : Nat) (hx : x < 9) (hy : y < 10) : runM 4 [] [.and 0 15 10, .and 1 15 x, .and 2 15 y] 3 [.int .i64 (.var 0), .int .i64 (.var 1), .int .i64 (.var 2)] = true := by
  rcases Nat.lt_or_ge x 4 with gx | gx
  · rcases Nat.lt_or_ge x 2 with gx | gx
    · rcases Nat.lt_or_ge x 1 with gx | gx
      · obtain rfl : x = 0 := by omega
        rcases Nat.lt_or_ge y 5 with gy | gy
        · rcases Nat.lt_or_ge y 2 with gy | gy
          · rcases Nat.lt_or_ge y 1 with gy | gy
            · obtain rfl : y = 0 := by omega
              exact itab_K_10_0_0
            · obtain rfl : y = 1 := by omega
              exact itab_K_10_0_1
          · rcases Nat.lt_or_ge y 3 with gy | gy
            · obtain rfl : y = 2 := by omega
              exact itab_K_10_0_2
            · rcases Nat.lt_or_ge y 4 with gy | gy
              · obtain rfl : y = 3 := by omega
                exact itab_K_10_0_3
              · obtain rfl : y = 4 := by omega
                exact itab_K_10_0_4
        · rcases Nat.lt_or_ge y 7 with gy | gy
          · rcases Nat.lt_or_ge y 6 with gy | gy
            · obtain rfl : y = 5 := by omega
              exact itab_K_10_0_5
            · obtain rfl : y = 6 := by omega
              exact itab_K_10_0_6
          · rcases Nat.lt_or_ge y 8 with gy | gy
            · obtain rfl : y = 7 := by omega
              exact itab_K_10_0_7
            · rcases Nat.lt_or_ge y 9 with gy | gy
              · obtain rfl : y = 8 := by omega
                exact itab_K_10_0_8
              · obtain rfl : y = 9 := by omega
                exact itab_K_10_0_9
      · obtain rfl : x = 1 := by omega
        rcases Nat.lt_or_ge y 5 with gy | gy
        · rcases Nat.lt_or_ge y 2 with gy | gy
          · rcases Nat.lt_or_ge y 1 with gy | gy
            · obtain rfl : y = 0 := by omega
              exact itab_K_10_1_0
            · obtain rfl : y = 1 := by omega
              exact itab_K_10_1_1
          · rcases Nat.lt_or_ge y 3 with gy | gy
            · obtain rfl : y = 2 := by omega
              exact itab_K_10_1_2
            · rcases Nat.lt_or_ge y 4 with gy | gy
              · obtain rfl : y = 3 := by omega
                exact itab_K_10_1_3
              · obtain rfl : y = 4 := by omega
                exact itab_K_10_1_4
        · rcases Nat.lt_or_ge y 7 with gy | gy
          · rcases Nat.lt_or_ge y 6 with gy | gy
            · obtain rfl : y = 5 := by omega
              exact itab_K_10_1_5
            · obtain rfl : y = 6 := by omega
              exact itab_K_10_1_6
          · rcases Nat.lt_or_ge y 8 with gy | gy
            · obtain rfl : y = 7 := by omega
              exact itab_K_10_1_7
            · rcases Nat.lt_or_ge y 9 with gy | gy
              · obtain rfl : y = 8 := by omega
                exact itab_K_10_1_8
              · obtain rfl : y = 9 := by omega
                exact itab_K_10_1_9
    · rcases Nat.lt_or_ge x 3 with gx | gx
      · obtain rfl : x = 2 := by omega
        rcases Nat.lt_or_ge y 5 with gy | gy
        · rcases Nat.lt_or_ge y 2 with gy | gy
          · rcases Nat.lt_or_ge y 1 with gy | gy
            · obtain rfl : y = 0 := by omega
              exact itab_K_10_2_0
            · obtain rfl : y = 1 := by omega
              exact itab_K_10_2_1
          · rcases Nat.lt_or_ge y 3 with gy | gy
            · obtain rfl : y = 2 := by omega
              exact itab_K_10_2_2
            · rcases Nat.lt_or_ge y 4 with gy | gy
              · obtain rfl : y = 3 := by omega
                exact itab_K_10_2_3
              · obtain rfl : y = 4 := by omega
                exact itab_K_10_2_4
        · rcases Nat.lt_or_ge y 7 with gy | gy
          · rcases Nat.lt_or_ge y 6 with gy | gy
            · obtain rfl : y = 5 := by omega
              exact itab_K_10_2_5
            · obtain rfl : y = 6 := by omega
              exact itab_K_10_2_6
          · rcases Nat.lt_or_ge y 8 with gy | gy
            · obtain rfl : y = 7 := by omega
              exact itab_K_10_2_7
            · rcases Nat.lt_or_ge y 9 with gy | gy
              · obtain rfl : y = 8 := by omega
                exact itab_K_10_2_8
              · obtain rfl : y = 9 := by omega
                exact itab_K_10_2_9
      · obtain rfl : x = 3 := by omega
        rcases Nat.lt_or_ge y 5 with gy | gy
        · rcases Nat.lt_or_ge y 2 with gy | gy
          · rcases Nat.lt_or_ge y 1 with gy | gy
            · obtain rfl : y = 0 := by omega
              exact itab_K_10_3_0
            · obtain rfl : y = 1 := by omega
              exact itab_K_10_3_1
          · rcases Nat.lt_or_ge y 3 with gy | gy
            · obtain rfl : y = 2 := by omega
              exact itab_K_10_3_2
            · rcases Nat.lt_or_ge y 4 with gy | gy
              · obtain rfl : y = 3 := by omega
                exact itab_K_10_3_3
              · obtain rfl : y = 4 := by omega
                exact itab_K_10_3_4
        · rcases Nat.lt_or_ge y 7 with gy | gy
          · rcases Nat.lt_or_ge y 6 with gy | gy
            · obtain rfl : y = 5 := by omega
              exact itab_K_10_3_5
            · obtain rfl : y = 6 := by omega
              exact itab_K_10_3_6
          · rcases Nat.lt_or_ge y 8 with gy | gy
            · obtain rfl : y = 7 := by omega
              exact itab_K_10_3_7
            · rcases Nat.lt_or_ge y 9 with gy | gy
              · obtain rfl : y = 8 := by omega
                exact itab_K_10_3_8
              · obtain rfl : y = 9 := by omega
                exact itab_K_10_3_9
  · rcases Nat.lt_or_ge x 6 with gx | gx
    · rcases Nat.lt_or_ge x 5 with gx | gx
      · obtain rfl : x = 4 := by omega
        rcases Nat.lt_or_ge y 5 with gy | gy
        · rcases Nat.lt_or_ge y 2 with gy | gy
          · rcases Nat.lt_or_ge y 1 with gy | gy
            · obtain rfl : y = 0 := by omega
              exact itab_K_10_4_0
            · obtain rfl : y = 1 := by omega
              exact itab_K_10_4_1
          · rcases Nat.lt_or_ge y 3 with gy | gy
            · obtain rfl : y = 2 := by omega
              exact itab_K_10_4_2
            · rcases Nat.lt_or_ge y 4 with gy | gy
              · obtain rfl : y = 3 := by omega
                exact itab_K_10_4_3
              · obtain rfl : y = 4 := by omega
                exact itab_K_10_4_4
        · rcases Nat.lt_or_ge y 7 with gy | gy
          · rcases Nat.lt_or_ge y 6 with gy | gy
            · obtain rfl : y = 5 := by omega
              exact itab_K_10_4_5
            · obtain rfl : y = 6 := by omega
              exact itab_K_10_4_6
          · rcases Nat.lt_or_ge y 8 with gy | gy
            · obtain rfl : y = 7 := by omega
              exact itab_K_10_4_7
            · rcases Nat.lt_or_ge y 9 with gy | gy
              · obtain rfl : y = 8 := by omega
                exact itab_K_10_4_8
              · obtain rfl : y = 9 := by omega
                exact itab_K_10_4_9
      · obtain rfl : x = 5 := by omega
        rcases Nat.lt_or_ge y 5 with gy | gy
        · rcases Nat.lt_or_ge y 2 with gy | gy
          · rcases Nat.lt_or_ge y 1 with gy | gy
            · obtain rfl : y = 0 := by omega
              exact itab_K_10_5_0
            · obtain rfl : y = 1 := by omega
              exact itab_K_10_5_1
          · rcases Nat.lt_or_ge y 3 with gy | gy
            · obtain rfl : y = 2 := by omega
              exact itab_K_10_5_2
            · rcases Nat.lt_or_ge y 4 with gy | gy
              · obtain rfl : y = 3 := by omega
                exact itab_K_10_5_3
              · obtain rfl : y = 4 := by omega
                exact itab_K_10_5_4
        · rcases Nat.lt_or_ge y 7 with gy | gy
          · rcases Nat.lt_or_ge y 6 with gy | gy
            · obtain rfl : y = 5 := by omega
              exact itab_K_10_5_5
            · obtain rfl : y = 6 := by omega
              exact itab_K_10_5_6
          · rcases Nat.lt_or_ge y 8 with gy | gy
            · obtain rfl : y = 7 := by omega
              exact itab_K_10_5_7
            · rcases Nat.lt_or_ge y 9 with gy | gy
              · obtain rfl : y = 8 := by omega
                exact itab_K_10_5_8
              · obtain rfl : y = 9 := by omega
                exact itab_K_10_5_9
    · rcases Nat.lt_or_ge x 7 with gx | gx
      · obtain rfl : x = 6 := by omega
        rcases Nat.lt_or_ge y 5 with gy | gy
        · rcases Nat.lt_or_ge y 2 with gy | gy
          · rcases Nat.lt_or_ge y 1 with gy | gy
            · obtain rfl : y = 0 := by omega
              exact itab_K_10_6_0
            · obtain rfl : y = 1 := by omega
              exact itab_K_10_6_1
          · rcases Nat.lt_or_ge y 3 with gy | gy
            · obtain rfl : y = 2 := by omega
              exact itab_K_10_6_2
            · rcases Nat.lt_or_ge y 4 with gy | gy
              · obtain rfl : y = 3 := by omega
                exact itab_K_10_6_3
              · obtain rfl : y = 4 := by omega
                exact itab_K_10_6_4
        · rcases Nat.lt_or_ge y 7 with gy | gy
          · rcases Nat.lt_or_ge y 6 with gy | gy
            · obtain rfl : y = 5 := by omega
              exact itab_K_10_6_5
            · obtain rfl : y = 6 := by omega
              exact itab_K_10_6_6
          · rcases Nat.lt_or_ge y 8 with gy | gy
            · obtain rfl : y = 7 := by omega
              exact itab_K_10_6_7
            · rcases Nat.lt_or_ge y 9 with gy | gy
              · obtain rfl : y = 8 := by omega
                exact itab_K_10_6_8
              · obtain rfl : y = 9 := by omega
                exact itab_K_10_6_9
      · rcases Nat.lt_or_ge x 8 with gx | gx
        · obtain rfl : x = 7 := by omega
          rcases Nat.lt_or_ge y 5 with gy | gy
          · rcases Nat.lt_or_ge y 2 with gy | gy
            · rcases Nat.lt_or_ge y 1 with gy | gy
              · obtain rfl : y = 0 := by omega
                exact itab_K_10_7_0
              · obtain rfl : y = 1 := by omega
                exact itab_K_10_7_1
            · rcases Nat.lt_or_ge y 3 with gy | gy
              · obtain rfl : y = 2 := by omega
                exact itab_K_10_7_2
              · rcases Nat.lt_or_ge y 4 with gy | gy
                · obtain rfl : y = 3 := by omega
                  exact itab_K_10_7_3
                · obtain rfl : y = 4 := by omega
                  exact itab_K_10_7_4
          · rcases Nat.lt_or_ge y 7 with gy | gy
            · rcases Nat.lt_or_ge y 6 with gy | gy
              · obtain rfl : y = 5 := by omega
                exact itab_K_10_7_5
              · obtain rfl : y = 6 := by omega
                exact itab_K_10_7_6
            · rcases Nat.lt_or_ge y 8 with gy | gy
              · obtain rfl : y = 7 := by omega
                exact itab_K_10_7_7
              · rcases Nat.lt_or_ge y 9 with gy | gy
                · obtain rfl : y = 8 := by omega
                  exact itab_K_10_7_8
                · obtain rfl : y = 9 := by omega
                  exact itab_K_10_7_9
        · obtain rfl : x = 8 := by omega
          rcases Nat.lt_or_ge y 5 with gy | gy
          · rcases Nat.lt_or_ge y 2 with gy | gy
            · rcases Nat.lt_or_ge y 1 with gy | gy
              · obtain rfl : y = 0 := by omega
                exact itab_K_10_8_0
              · obtain rfl : y = 1 := by omega
                exact itab_K_10_8_1
            · rcases Nat.lt_or_ge y 3 with gy | gy
              · obtain rfl : y = 2 := by omega
                exact itab_K_10_8_2
              · rcases Nat.lt_or_ge y 4 with gy | gy
                · obtain rfl : y = 3 := by omega
                  exact itab_K_10_8_3
                · obtain rfl : y = 4 := by omega
                  exact itab_K_10_8_4
          · rcases Nat.lt_or_ge y 7 with gy | gy
            · rcases Nat.lt_or_ge y 6 with gy | gy
              · obtain rfl : y = 5 := by omega
                exact itab_K_10_8_5
              · obtain rfl : y = 6 := by omega
                exact itab_K_10_8_6
            · rcases Nat.lt_or_ge y 8 with gy | gy
              · obtain rfl : y = 7 := by omega
                exact itab_K_10_8_7
              · rcases Nat.lt_or_ge y 9 with gy | gy
                · obtain rfl : y = 8 := by omega
                  exact itab_K_10_8_8
                · obtain rfl : y = 9 := by omega
                  exact itab_K_10_8_9
theorem itab_K11 (x y : Nat) (hx : x < 10) (hy : y < 11) : runM 4 [] [.and 0 15 11, .and 1 15 x, .and 2 15 y] 3 [.int .i64 (.var 0), .int .i64 (.var 1), .int .i64 (.var 2)] = true := by
  rcases Nat.lt_or_ge x 5 with gx | gx
  · rcases Nat.lt_or_ge x 2 with gx | gx
    · rcases Nat.lt_or_ge x 1 with gx | gx
      · obtain rfl : x = 0 := by omega
        rcases Nat.lt_or_ge y 5 with gy | gy
        · rcases Nat.lt_or_ge y 2 with gy | gy
          · rcases Nat.lt_or_ge y 1 with gy | gy
            · obtain rfl : y = 0 := by omega
              exact itab_K_11_0_0
            · obtain rfl : y = 1 := by omega
              exact itab_K_11_0_1
          · rcases Nat.lt_or_ge y 3 with gy | gy
            · obtain rfl : y = 2 := by omega
              exact itab_K_11_0_2
            · rcases Nat.lt_or_ge y 4 with gy | gy
              · obtain rfl : y = 3 := by omega
                exact itab_K_11_0_3
              · obtain rfl : y = 4 := by omega
                exact itab_K_11_0_4
        · rcases Nat.lt_or_ge y 8 with gy | gy
          · rcases Nat.lt_or_ge y 6 with gy | gy
            · obtain rfl : y = 5 := by omega
              exact itab_K_11_0_5
            · rcases Nat.lt_or_ge y 7 with gy | gy
              · obtain rfl : y = 6 := by omega
                exact itab_K_11_0_6
              · obtain rfl : y = 7 := by omega
                exact itab_K_11_0_7
          · rcases Nat.lt_or_ge y 9 with gy | gy
            · obtain rfl : y = 8 := by omega
              exact itab_K_11_0_8
            · rcases Nat.lt_or_ge y 10 with gy | gy
              · obtain rfl : y = 9 := by omega
                exact itab_K_11_0_9
              · obtain rfl : y = 10 := by omega
                exact itab_K_11_0_10
      · obtain rfl : x = 1 := by omega
        rcases Nat.lt_or_ge y 5 with gy | gy
        · rcases Nat.lt_or_ge y 2 with gy | gy
          · rcases Nat.lt_or_ge y 1 with gy | gy
            · obtain rfl : y = 0 := by omega
              exact itab_K_11_1_0
            · obtain rfl : y = 1 := by omega
              exact itab_K_11_1_1
          · rcases Nat.lt_or_ge y 3 with gy | gy
            · obtain rfl : y = 2 := by omega
              exact itab_K_11_1_2
            · rcases Nat.lt_or_ge y 4 with gy | gy
              · obtain rfl : y = 3 := by omega
                exact itab_K_11_1_3
              · obtain rfl : y = 4 := by omega
                exact itab_K_11_1_4
        · rcases Nat.lt_or_ge y 8 with gy | gy
          · rcases Nat.lt_or_ge y 6 with gy | gy
            · obtain rfl : y = 5 := by omega
              exact itab_K_11_1_5
            · rcases Nat.lt_or_ge y 7 with gy | gy
              · obtain rfl : y = 6 := by omega
                exact itab_K_11_1_6
              · obtain rfl : y = 7 := by omega
                exact itab_K_11_1_7
          · rcases Nat.lt_or_ge y 9 with gy | gy
            · obtain rfl : y = 8 := by omega
              exact itab_K_11_1_8
            · rcases Nat.lt_or_ge y 10 with gy | gy
              · obtain rfl : y = 9 := by omega
                exact itab_K_11_1_9
              · obtain rfl : y = 10 := by omega
                exact itab_K_11_1_10
    · rcases Nat.lt_or_ge x 3 with gx | gx
      · obtain rfl : x = 2 := by omega
        rcases Nat.lt_or_ge y 5 with gy | gy
        · rcases Nat.lt_or_ge y 2 with gy | gy
          · rcases Nat.lt_or_ge y 1 with gy | gy
            · obtain rfl : y = 0 := by omega
              exact itab_K_11_2_0
            · obtain rfl : y = 1 := by omega
              exact itab_K_11_2_1
          · rcases Nat.lt_or_ge y 3 with gy | gy
            · obtain rfl : y = 2 := by omega
              exact itab_K_11_2_2
            · rcases Nat.lt_or_ge y 4 with gy | gy
              · obtain rfl : y = 3 := by omega
                exact itab_K_11_2_3
              · obtain rfl : y = 4 := by omega
                exact itab_K_11_2_4
        · rcases Nat.lt_or_ge y 8 with gy | gy
          · rcases Nat.lt_or_ge y 6 with gy | gy
            · obtain rfl : y = 5 := by omega
              exact itab_K_11_2_5
            · rcases Nat.lt_or_ge y 7 with gy | gy
              · obtain rfl : y = 6 := by omega
                exact itab_K_11_2_6
              · obtain rfl : y = 7 := by omega
                exact itab_K_11_2_7
          · rcases Nat.lt_or_ge y 9 with gy | gy
            · obtain rfl : y = 8 := by omega
              exact itab_K_11_2_8
            · rcases Nat.lt_or_ge y 10 with gy | gy
              · obtain rfl : y = 9 := by omega
                exact itab_K_11_2_9
              · obtain rfl : y = 10 := by omega
                exact itab_K_11_2_10
      · rcases Nat.lt_or_ge x 4 with gx | gx
        · obtain rfl : x = 3 := by omega
          rcases Nat.lt_or_ge y 5 with gy | gy
          · rcases Nat.lt_or_ge y 2 with gy | gy
            · rcases Nat.lt_or_ge y 1 with gy | gy
              · obtain rfl : y = 0 := by omega
                exact itab_K_11_3_0
              · obtain rfl : y = 1 := by omega
                exact itab_K_11_3_1
            · rcases Nat.lt_or_ge y 3 with gy | gy
              · obtain rfl : y = 2 := by omega
                exact itab_K_11_3_2
              · rcases Nat.lt_or_ge y 4 with gy | gy
                · obtain rfl : y = 3 := by omega
                  exact itab_K_11_3_3
                · obtain rfl : y = 4 := by omega
                  exact itab_K_11_3_4
          · rcases Nat.lt_or_ge y 8 with gy | gy
            · rcases Nat.lt_or_ge y 6 with gy | gy
              · obtain rfl : y = 5 := by omega
                exact itab_K_11_3_5
              · rcases Nat.lt_or_ge y 7 with gy | gy
                · obtain rfl : y = 6 := by omega
                  exact itab_K_11_3_6
                · obtain rfl : y = 7 := by omega
                  exact itab_K_11_3_7
            · rcases Nat.lt_or_ge y 9 with gy | gy
              · obtain rfl : y = 8 := by omega
                exact itab_K_11_3_8
              · rcases Nat.lt_or_ge y 10 with gy | gy
                · obtain rfl : y = 9 := by omega
                  exact itab_K_11_3_9
                · obtain rfl : y = 10 := by omega
                  exact itab_K_11_3_10
        · obtain rfl : x = 4 := by omega
          rcases Nat.lt_or_ge y 5 with gy | gy
          · rcases Nat.lt_or_ge y 2 with gy | gy
            · rcases Nat.lt_or_ge y 1 with gy | gy
              · obtain rfl : y = 0 := by omega
                exact itab_K_11_4_0
              · obtain rfl : y = 1 := by omega
                exact itab_K_11_4_1
            · rcases Nat.lt_or_ge y 3 with gy | gy
              · obtain rfl : y = 2 := by omega
                exact itab_K_11_4_2
              · rcases Nat.lt_or_ge y 4 with gy | gy
                · obtain rfl : y = 3 := by omega
                  exact itab_K_11_4_3
                · obtain rfl : y = 4 := by omega
                  exact itab_K_11_4_4
          · rcases Nat.lt_or_ge y 8 with gy | gy
            · rcases Nat.lt_or_ge y 6 with gy | gy
              · obtain rfl : y = 5 := by omega
                exact itab_K_11_4_5
              · rcases Nat.lt_or_ge y 7 with gy | gy
                · obtain rfl : y = 6 := by omega
                  exact itab_K_11_4_6
                · obtain rfl : y = 7 := by omega
                  exact itab_K_11_4_7
            · rcases Nat.lt_or_ge y 9 with gy | gy
              · obtain rfl : y = 8 := by omega
                exact itab_K_11_4_8
              · rcases Nat.lt_or_ge y 10 with gy | gy
                · obtain rfl : y = 9 := by omega
                  exact itab_K_11_4_9
                · obtain rfl : y = 10 := by omega
                  exact itab_K_11_4_10
  · rcases Nat.lt_or_ge x 7 with gx | gx
    · rcases Nat.lt_or_ge x 6 with gx | gx
      · obtain rfl : x = 5 := by omega
        rcases Nat.lt_or_ge y 5 with gy | gy
        · rcases Nat.lt_or_ge y 2 with gy | gy
          · rcases Nat.lt_or_ge y 1 with gy | gy
            · obtain rfl : y = 0 := by omega
              exact itab_K_11_5_0
            · obtain rfl : y = 1 := by omega
              exact itab_K_11_5_1
          · rcases Nat.lt_or_ge y 3 with gy | gy
            · obtain rfl : y = 2 := by omega
              exact itab_K_11_5_2
            · rcases Nat.lt_or_ge y 4 with gy | gy
              · obtain rfl : y = 3 := by omega
                exact itab_K_11_5_3
              · obtain rfl : y = 4 := by omega
                exact itab_K_11_5_4
        · rcases Nat.lt_or_ge y 8 with gy | gy
          · rcases Nat.lt_or_ge y 6 with gy | gy
            · obtain rfl : y = 5 := by omega
              exact itab_K_11_5_5
            · rcases Nat.lt_or_ge y 7 with gy | gy
              · obtain rfl : y = 6 := by omega
                exact itab_K_11_5_6
              · obtain rfl : y = 7 := by omega
                exact itab_K_11_5_7
          · rcases Nat.lt_or_ge y 9 with gy | gy
            · obtain rfl : y = 8 := by omega
              exact itab_K_11_5_8
            · rcases Nat.lt_or_ge y 10 with gy | gy
              · obtain rfl : y = 9 := by omega
                exact itab_K_11_5_9
              · obtain rfl : y = 10 := by omega
                exact itab_K_11_5_10
      · obtain rfl : x = 6 := by omega
        rcases Nat.lt_or_ge y 5 with gy | gy
        · rcases Nat.lt_or_ge y 2 with gy | gy
          · rcases Nat.lt_or_ge y 1 with gy | gy
            · obtain rfl : y = 0 := by omega
              exact itab_K_11_6_0
            · obtain rfl : y = 1 := by omega
              exact itab_K_11_6_1
          · rcases Nat.lt_or_ge y 3 with gy | gy
            · obtain rfl : y = 2 := by omega
              exact itab_K_11_6_2
            · rcases Nat.lt_or_ge y 4 with gy | gy
              · obtain rfl : y = 3 := by omega
                exact itab_K_11_6_3
              · obtain rfl : y = 4 := by omega
                exact itab_K_11_6_4
        · rcases Nat.lt_or_ge y 8 with gy | gy
          · rcases Nat.lt_or_ge y 6 with gy | gy
            · obtain rfl : y = 5 := by omega
              exact itab_K_11_6_5
            · rcases Nat.lt_or_ge y 7 with gy | gy
              · obtain rfl : y = 6 := by omega
                exact itab_K_11_6_6
              · obtain rfl : y = 7 := by omega
                exact itab_K_11_6_7
          · rcases Nat.lt_or_ge y 9 with gy | gy
            · obtain rfl : y = 8 := by omega
              exact itab_K_11_6_8
            · rcases Nat.lt_or_ge y 10 with gy | gy
              · obtain rfl : y = 9 := by omega
                exact itab_K_11_6_9
              · obtain rfl : y = 10 := by omega
                exact itab_K_11_6_10
    · rcases Nat.lt_or_ge x 8 with gx | gx
      · obtain rfl : x = 7 := by omega
        rcases Nat.lt_or_ge y 5 with gy | gy
        · rcases Nat.lt_or_ge y 2 with gy | gy
          · rcases Nat.lt_or_ge y 1 with gy | gy
            · obtain rfl : y = 0 := by omega
              exact itab_K_11_7_0
            · obtain rfl : y = 1 := by omega
              exact itab_K_11_7_1
          · rcases Nat.lt_or_ge y 3 with gy | gy
            · obtain rfl : y = 2 := by omega
              exact itab_K_11_7_2
            · rcases Nat.lt_or_ge y 4 with gy | gy
              · obtain rfl : y = 3 := by omega
                exact itab_K_11_7_3
              · obtain rfl : y = 4 := by omega
                exact itab_K_11_7_4
        · rcases Nat.lt_or_ge y 8 with gy | gy
          · rcases Nat.lt_or_ge y 6 with gy | gy
            · obtain rfl : y = 5 := by omega
              exact itab_K_11_7_5
            · rcases Nat.lt_or_ge y 7 with gy | gy
              · obtain rfl : y = 6 := by omega
                exact itab_K_11_7_6
              · obtain rfl : y = 7 := by omega
                exact itab_K_11_7_7
          · rcases Nat.lt_or_ge y 9 with gy | gy
            · obtain rfl : y = 8 := by omega
              exact itab_K_11_7_8
            · rcases Nat.lt_or_ge y 10 with gy | gy
              · obtain rfl : y = 9 := by omega
                exact itab_K_11_7_9
              · obtain rfl : y = 10 := by omega
                exact itab_K_11_7_10
      · rcases Nat.lt_or_ge x 9 with gx | gx
        · obtain rfl : x = 8 := by omega
          rcases Nat.lt_or_ge y 5 with gy | gy
          · rcases Nat.lt_or_ge y 2 with gy | gy
            · rcases Nat.lt_or_ge y 1 with gy | gy
              · obtain rfl : y = 0 := by omega
                exact itab_K_11_8_0
              · obtain rfl : y = 1 := by omega
                exact itab_K_11_8_1
            · rcases Nat.lt_or_ge y 3 with gy | gy
              · obtain rfl : y = 2 := by omega
                exact itab_K_11_8_2
              · rcases Nat.lt_or_ge y 4 with gy | gy
                · obtain rfl : y = 3 := by omega
                  exact itab_K_11_8_3
                · obtain rfl : y = 4 := by omega
                  exact itab_K_11_8_4
          · rcases Nat.lt_or_ge y 8 with gy | gy
            · rcases Nat.lt_or_ge y 6 with gy | gy
              · obtain rfl : y = 5 := by omega
                exact itab_K_11_8_5
              · rcases Nat.lt_or_ge y 7 with gy | gy
                · obtain rfl : y = 6 := by omega
                  exact itab_K_11_8_6
                · obtain rfl : y = 7 := by omega
                  exact itab_K_11_8_7
            · rcases Nat.lt_or_ge y 9 with gy | gy
              · obtain rfl : y = 8 := by omega
                exact itab_K_11_8_8
              · rcases Nat.lt_or_ge y 10 with gy | gy
                · obtain rfl : y = 9 := by omega
                  exact itab_K_11_8_9
                · obtain rfl : y = 10 := by omega
                  exact itab_K_11_8_10
        · obtain rfl : x = 9 := by omega
          rcases Nat.lt_or_ge y 5 with gy | gy
          · rcases Nat.lt_or_ge y 2 with gy | gy
            · rcases Nat.lt_or_ge y 1 with gy | gy
              · obtain rfl : y = 0 := by omega
                exact itab_K_11_9_0
              · obtain rfl : y = 1 := by omega
                exact itab_K_11_9_1
            · rcases Nat.lt_or_ge y 3 with gy | gy
              · obtain rfl : y = 2 := by omega
                exact itab_K_11_9_2
              · rcases Nat.lt_or_ge y 4 with gy | gy
                · obtain rfl : y = 3 := by omega
                  exact itab_K_11_9_3
                · obtain rfl : y = 4 := by omega
                  exact itab_K_11_9_4
          · rcases Nat.lt_or_ge y 8 with gy | gy
            · rcases Nat.lt_or_ge y 6 with gy | gy
              · obtain rfl : y = 5 := by omega
                exact itab_K_11_9_5
              · rcases Nat.lt_or_ge y 7 with gy | gy
                · obtain rfl : y = 6 := by omega
                  exact itab_K_11_9_6
                · obtain rfl : y = 7 := by omega
                  exact itab_K_11_9_7
            · rcases Nat.lt_or_ge y 9 with gy | gy
              · obtain rfl : y = 8 := by omega
                exact itab_K_11_9_8
              · rcases Nat.lt_or_ge y 10 with gy | gy
                · obtain rfl : y = 9 := by omega
                  exact itab_K_11_9_9
                · obtain rfl : y = 10 := by omega
                  exact itab_K_11_9_10
theorem itab_K12 (x y : Nat) (hx : x < 11) (hy : y < 12) : runM 4 [] [.and 0 15 12, .and 1 15 x, .and 2 15 y] 3 [.int .i64 (.var 0), .int .i64 (.var 1), .int .i64 (.var 2)] = true := by
  rcases Nat.lt_or_ge x 5 with gx | gx
  · rcases Nat.lt_or_ge x 2 with gx | gx
    · rcases Nat.lt_or_ge x 1 with gx | gx
      · obtain rfl : x = 0 := by omega
        rcases Nat.lt_or_ge y 6 with gy | gy
        · rcases Nat.lt_or_ge y 3 with gy | gy
          · rcases Nat.lt_or_ge y 1 with gy | gy
            · obtain rfl : y = 0 := by omega
              exact itab_K_12_0_0
            · rcases Nat.lt_or_ge y 2 with gy | gy
              · obtain rfl : y = 1 := by omega
                exact itab_K_12_0_1
              · obtain rfl : y = 2 := by omega
                exact itab_K_12_0_2
          · rcases Nat.lt_or_ge y 4 with gy | gy
            · obtain rfl : y = 3 := by omega
              exact itab_K_12_0_3
            · rcases Nat.lt_or_ge y 5 with gy | gy
              · obtain rfl : y = 4 := by omega
                exact itab_K_12_0_4
              · obtain rfl : y = 5 := by omega
                exact itab_K_12_0_5
        · rcases Nat.lt_or_ge y 9 with gy | gy
          · rcases Nat.lt_or_ge y 7 with gy | gy
            · obtain rfl : y = 6 := by omega
              exact itab_K_12_0_6
            · rcases Nat.lt_or_ge y 8 with gy | gy
              · obtain rfl : y = 7 := by omega
                exact itab_K_12_0_7
              · obtain rfl : y = 8 := by omega
                exact itab_K_12_0_8
          · rcases Nat.lt_or_ge y 10 with gy | gy
            · obtain rfl : y = 9 := by omega
              exact itab_K_12_0_9
            · rcases Nat.lt_or_ge y 11 with gy | gy
              · obtain rfl : y = 10 := by omega
                exact itab_K_12_0_10
              · obtain rfl : y = 11 := by omega
                exact itab_K_12_0_11
      · obtain rfl : x = 1 := by omega
        rcases Nat.lt_or_ge y 6 with gy | gy
        · rcases Nat.lt_or_ge y 3 with gy | gy
          · rcases Nat.lt_or_ge y 1 with gy | gy
            · obtain rfl : y = 0 := by omega
              exact itab_K_12_1_0
            · rcases Nat.lt_or_ge y 2 with gy | gy
              · obtain rfl : y = 1 := by omega
                exact itab_K_12_1_1
              · obtain rfl : y = 2 := by omega
                exact itab_K_12_1_2
          · rcases Nat.lt_or_ge y 4 with gy | gy
            · obtain rfl : y = 3 := by omega
              exact itab_K_12_1_3
            · rcases Nat.lt_or_ge y 5 with gy | gy
              · obtain rfl : y = 4 := by omega
                exact itab_K_12_1_4
              · obtain rfl : y = 5 := by omega
                exact itab_K_12_1_5
        · rcases Nat.lt_or_ge y 9 with gy | gy
          · rcases Nat.lt_or_ge y 7 with gy | gy
            · obtain rfl : y = 6 := by omega
              exact itab_K_12_1_6
            · rcases Nat.lt_or_ge y 8 with gy | gy
              · obtain rfl : y = 7 := by omega
                exact itab_K_12_1_7
              · obtain rfl : y = 8 := by omega
                exact itab_K_12_1_8
          · rcases Nat.lt_or_ge y 10 with gy | gy
            · obtain rfl : y = 9 := by omega
              exact itab_K_12_1_9
            · rcases Nat.lt_or_ge y 11 with gy | gy
              · obtain rfl : y = 10 := by omega
                exact itab_K_12_1_10
              · obtain rfl : y = 11 := by omega
                exact itab_K_12_1_11
    · rcases Nat.lt_or_ge x 3 with gx | gx
      · obtain rfl : x = 2 := by omega
        rcases Nat.lt_or_ge y 6 with gy | gy
        · rcases Nat.lt_or_ge y 3 with gy | gy
          · rcases Nat.lt_or_ge y 1 with gy | gy
            · obtain rfl : y = 0 := by omega
              exact itab_K_12_2_0
            · rcases Nat.lt_or_ge y 2 with gy | gy
              · obtain rfl : y = 1 := by omega
                exact itab_K_12_2_1
              · obtain rfl : y = 2 := by omega
                exact itab_K_12_2_2
          · rcases Nat.lt_or_ge y 4 with gy | gy
            · obtain rfl : y = 3 := by omega
              exact itab_K_12_2_3
            · rcases Nat.lt_or_ge y 5 with gy | gy
              · obtain rfl : y = 4 := by omega
                exact itab_K_12_2_4
              · obtain rfl : y = 5 := by omega
                exact itab_K_12_2_5
        · rcases Nat.lt_or_ge y 9 with gy | gy
          · rcases Nat.lt_or_ge y 7 with gy | gy
            · obtain rfl : y = 6 := by omega
              exact itab_K_12_2_6
            · rcases Nat.lt_or_ge y 8 with gy | gy
              · obtain rfl : y = 7 := by omega
                exact itab_K_12_2_7
              · obtain rfl : y = 8 := by omega
                exact itab_K_12_2_8
          · rcases Nat.lt_or_ge y 10 with gy | gy
            · obtain rfl : y = 9 := by omega
              exact itab_K_12_2_9
            · rcases Nat.lt_or_ge y 11 with gy | gy
              · obtain rfl : y = 10 := by omega
                exact itab_K_12_2_10
              · obtain rfl : y = 11 := by omega
                exact itab_K_12_2_11
      · rcases Nat.lt_or_ge x 4 with gx | gx
        · obtain rfl : x = 3 := by omega
          rcases Nat.lt_or_ge y 6 with gy | gy
          · rcases Nat.lt_or_ge y 3 with gy | gy
            · rcases Nat.lt_or_ge y 1 with gy | gy
              · obtain rfl : y = 0 := by omega
                exact itab_K_12_3_0
              · rcases Nat.lt_or_ge y 2 with gy | gy
                · obtain rfl : y = 1 := by omega
                  exact itab_K_12_3_1
                · obtain rfl : y = 2 := by omega
                  exact itab_K_12_3_2
            · rcases Nat.lt_or_ge y 4 with gy | gy
              · obtain rfl : y = 3 := by omega
                exact itab_K_12_3_3
              · rcases Nat.lt_or_ge y 5 with gy | gy
                · obtain rfl : y = 4 := by omega
                  exact itab_K_12_3_4
                · obtain rfl : y = 5 := by omega
                  exact itab_K_12_3_5
          · rcases Nat.lt_or_ge y 9 with gy | gy
            · rcases Nat.lt_or_ge y 7 with gy | gy
              · obtain rfl : y = 6 := by omega
                exact itab_K_12_3_6
              · rcases Nat.lt_or_ge y 8 with gy | gy
                · obtain rfl : y = 7 := by omega
                  exact itab_K_12_3_7
                · obtain rfl : y = 8 := by omega
                  exact itab_K_12_3_8
            · rcases Nat.lt_or_ge y 10 with gy | gy
              · obtain rfl : y = 9 := by omega
                exact itab_K_12_3_9
              · rcases Nat.lt_or_ge y 11 with gy | gy
                · obtain rfl : y = 10 := by omega
                  exact itab_K_12_3_10
                · obtain rfl : y = 11 := by omega
                  exact itab_K_12_3_11
        · obtain rfl : x = 4 := by omega
          rcases Nat.lt_or_ge y 6 with gy | gy
          · rcases Nat.lt_or_ge y 3 with gy | gy
            · rcases Nat.lt_or_ge y 1 with gy | gy
              · obtain rfl : y = 0 := by omega
                exact itab_K_12_4_0
              · rcases Nat.lt_or_ge y 2 with gy | gy
                · obtain rfl : y = 1 := by omega
                  exact itab_K_12_4_1
                · obtain rfl : y = 2 := by omega
                  exact itab_K_12_4_2
            · rcases Nat.lt_or_ge y 4 with gy | gy
              · obtain rfl : y = 3 := by omega
                exact itab_K_12_4_3
              · rcases Nat.lt_or_ge y 5 with gy | gy
                · obtain rfl : y = 4 := by omega
                  exact itab_K_12_4_4
                · obtain rfl : y = 5 := by omega
                  exact itab_K_12_4_5
          · rcases Nat.lt_or_ge y 9 with gy | gy
            · rcases Nat.lt_or_ge y 7 with gy | gy
              · obtain rfl : y = 6 := by omega
                exact itab_K_12_4_6
              · rcases Nat.lt_or_ge y 8 with gy | gy
                · obtain rfl : y = 7 := by omega
                  exact itab_K_12_4_7
                · obtain rfl : y = 8 := by omega
                  exact itab_K_12_4_8
            · rcases Nat.lt_or_ge y 10 with gy | gy
              · obtain rfl : y = 9 := by omega
                exact itab_K_12_4_9
              · rcases Nat.lt_or_ge y 11 with gy | gy
                · obtain rfl : y = 10 := by omega
                  exact itab_K_12_4_10
                · obtain rfl : y = 11 := by omega
                  exact itab_K_12_4_11
  · rcases Nat.lt_or_ge x 8 with gx | gx
    · rcases Nat.lt_or_ge x 6 with gx | gx
      · obtain rfl : x = 5 := by omega
        rcases Nat.lt_or_ge y 6 with gy | gy
        · rcases Nat.lt_or_ge y 3 with gy | gy
          · rcases Nat.lt_or_ge y 1 with gy | gy
            · obtain rfl : y = 0 := by omega
              exact itab_K_12_5_0
            · rcases Nat.lt_or_ge y 2 with gy | gy
              · obtain rfl : y = 1 := by omega
                exact itab_K_12_5_1
              · obtain rfl : y = 2 := by omega
                exact itab_K_12_5_2
          · rcases Nat.lt_or_ge y 4 with gy | gy
            · obtain rfl : y = 3 := by omega
              exact itab_K_12_5_3
            · rcases Nat.lt_or_ge y 5 with gy | gy
              · obtain rfl : y = 4 := by omega
                exact itab_K_12_5_4
              · obtain rfl : y = 5 := by omega
                exact itab_K_12_5_5
        · rcases Nat.lt_or_ge y 9 with gy | gy
          · rcases Nat.lt_or_ge y 7 with gy | gy
            · obtain rfl : y = 6 := by omega
              exact itab_K_12_5_6
            · rcases Nat.lt_or_ge y 8 with gy | gy
              · obtain rfl : y = 7 := by omega
                exact itab_K_12_5_7
              · obtain rfl : y = 8 := by omega
                exact itab_K_12_5_8
          · rcases Nat.lt_or_ge y 10 with gy | gy
            · obtain rfl : y = 9 := by omega
              exact itab_K_12_5_9
            · rcases Nat.lt_or_ge y 11 with gy | gy
              · obtain rfl : y = 10 := by omega
                exact itab_K_12_5_10
              · obtain rfl : y = 11 := by omega
                exact itab_K_12_5_11
      · rcases Nat.lt_or_ge x 7 with gx | gx
        · obtain rfl : x = 6 := by omega
          rcases Nat.lt_or_ge y 6 with gy | gy
          · rcases Nat.lt_or_ge y 3 with gy | gy
            · rcases Nat.lt_or_ge y 1 with gy | gy
              · obtain rfl : y = 0 := by omega
                exact itab_K_12_6_0
              · rcases Nat.lt_or_ge y 2 with gy | gy
                · obtain rfl : y = 1 := by omega
                  exact itab_K_12_6_1
                · obtain rfl : y = 2 := by omega
                  exact itab_K_12_6_2
            · rcases Nat.lt_or_ge y 4 with gy | gy
              · obtain rfl : y = 3 := by omega
                exact itab_K_12_6_3
              · rcases Nat.lt_or_ge y 5 with gy | gy
                · obtain rfl : y = 4 := by omega
                  exact itab_K_12_6_4
                · obtain rfl : y = 5 := by omega
                  exact itab_K_12_6_5
          · rcases Nat.lt_or_ge y 9 with gy | gy
            · rcases Nat.lt_or_ge y 7 with gy | gy
              · obtain rfl : y = 6 := by omega
                exact itab_K_12_6_6
              · rcases Nat.lt_or_ge y 8 with gy | gy
                · obtain rfl : y = 7 := by omega
                  exact itab_K_12_6_7
                · obtain rfl : y = 8 := by omega
                  exact itab_K_12_6_8
            · rcases Nat.lt_or_ge y 10 with gy | gy
              · obtain rfl : y = 9 := by omega
                exact itab_K_12_6_9
              · rcases Nat.lt_or_ge y 11 with gy | gy
                · obtain rfl : y = 10 := by omega
                  exact itab_K_12_6_10
                · obtain rfl : y = 11 := by omega
                  exact itab_K_12_6_11
        · obtain rfl : x = 7 := by omega
          rcases Nat.lt_or_ge y 6 with gy | gy
          · rcases Nat.lt_or_ge y 3 with gy | gy
            · rcases Nat.lt_or_ge y 1 with gy | gy
              · obtain rfl : y = 0 := by omega
                exact itab_K_12_7_0
              · rcases Nat.lt_or_ge y 2 with gy | gy
                · obtain rfl : y = 1 := by omega
                  exact itab_K_12_7_1
                · obtain rfl : y = 2 := by omega
                  exact itab_K_12_7_2
            · rcases Nat.lt_or_ge y 4 with gy | gy
              · obtain rfl : y = 3 := by omega
                exact itab_K_12_7_3
              · rcases Nat.lt_or_ge y 5 with gy | gy
                · obtain rfl : y = 4 := by omega
                  exact itab_K_12_7_4
                · obtain rfl : y = 5 := by omega
                  exact itab_K_12_7_5
          · rcases Nat.lt_or_ge y 9 with gy | gy
            · rcases Nat.lt_or_ge y 7 with gy | gy
              · obtain rfl : y = 6 := by omega
                exact itab_K_12_7_6
              · rcases Nat.lt_or_ge y 8 with gy | gy
                · obtain rfl : y = 7 := by omega
                  exact itab_K_12_7_7
                · obtain rfl : y = 8 := by omega
                  exact itab_K_12_7_8
            · rcases Nat.lt_or_ge y 10 with gy | gy
              · obtain rfl : y = 9 := by omega
                exact itab_K_12_7_9
              · rcases Nat.lt_or_ge y 11 with gy | gy
                · obtain rfl : y = 10 := by omega
                  exact itab_K_12_7_10
                · obtain rfl : y = 11 := by omega
                  exact itab_K_12_7_11
    · rcases Nat.lt_or_ge x 9 with gx | gx
      · obtain rfl : x = 8 := by omega
        rcases Nat.lt_or_ge y 6 with gy | gy
        · rcases Nat.lt_or_ge y 3 with gy | gy
          · rcases Nat.lt_or_ge y 1 with gy | gy
            · obtain rfl : y = 0 := by omega
              exact itab_K_12_8_0
            · rcases Nat.lt_or_ge y 2 with gy | gy
              · obtain rfl : y = 1 := by omega
                exact itab_K_12_8_1
              · obtain rfl : y = 2 := by omega
                exact itab_K_12_8_2
          · rcases Nat.lt_or_ge y 4 with gy | gy
            · obtain rfl : y = 3 := by omega
              exact itab_K_12_8_3
            · rcases Nat.lt_or_ge y 5 with gy | gy
              · obtain rfl : y = 4 := by omega
                exact itab_K_12_8_4
              · obtain rfl : y = 5 := by omega
                exact itab_K_12_8_5
        · rcases Nat.lt_or_ge y 9 with gy | gy
          · rcases Nat.lt_or_ge y 7 with gy | gy
            · obtain rfl : y = 6 := by omega
              exact itab_K_12_8_6
            · rcases Nat.lt_or_ge y 8 with gy | gy
              · obtain rfl : y = 7 := by omega
                exact itab_K_12_8_7
              · obtain rfl : y = 8 := by omega
                exact itab_K_12_8_8
          · rcases Nat.lt_or_ge y 10 with gy | gy
            · obtain rfl : y = 9 := by omega
              exact itab_K_12_8_9
            · rcases Nat.lt_or_ge y 11 with gy | gy
              · obtain rfl : y = 10 := by omega
                exact itab_K_12_8_10
              · obtain rfl : y = 11 := by omega
                exact itab_K_12_8_11
      · rcases Nat.lt_or_ge x 10 with gx | gx
        · obtain rfl : x = 9 := by omega
          rcases Nat.lt_or_ge y 6 with gy | gy
          · rcases Nat.lt_or_ge y 3 with gy | gy
            · rcases Nat.lt_or_ge y 1 with gy | gy
              · obtain rfl : y = 0 := by omega
                exact itab_K_12_9_0
              · rcases Nat.lt_or_ge y 2 with gy | gy
                · obtain rfl : y = 1 := by omega
                  exact itab_K_12_9_1
                · obtain rfl : y = 2 := by omega
                  exact itab_K_12_9_2
            · rcases Nat.lt_or_ge y 4 with gy | gy
              · obtain rfl : y = 3 := by omega
                exact itab_K_12_9_3
              · rcases Nat.lt_or_ge y 5 with gy | gy
                · obtain rfl : y = 4 := by omega
                  exact itab_K_12_9_4
                · obtain rfl : y = 5 := by omega
                  exact itab_K_12_9_5
          · rcases Nat.lt_or_ge y 9 with gy | gy
            · rcases Nat.lt_or_ge y 7 with gy | gy
              · obtain rfl : y = 6 := by omega
                exact itab_K_12_9_6
              · rcases Nat.lt_or_ge y 8 with gy | gy
                · obtain rfl : y = 7 := by omega
                  exact itab_K_12_9_7
                · obtain rfl : y = 8 := by omega
                  exact itab_K_12_9_8
            · rcases Nat.lt_or_ge y 10 with gy | gy
              · obtain rfl : y = 9 := by omega
                exact itab_K_12_9_9
              · rcases Nat.lt_or_ge y 11 with gy | gy
                · obtain rfl : y = 10 := by omega
                  exact itab_K_12_9_10
                · obtain rfl : y = 11 := by omega
                  exact itab_K_12_9_11
        · obtain rfl : x = 10 := by omega
          rcases Nat.lt_or_ge y 6 with gy | gy
          · rcases Nat.lt_or_ge y 3 with gy | gy
            · rcases Nat.lt_or_ge y 1 with gy | gy
              · obtain rfl : y = 0 := by omega
                exact itab_K_12_10_0
              · rcases Nat.lt_or_ge y 2 with gy | gy
                · obtain rfl : y = 1 := by omega
                  exact itab_K_12_10_1
                · obtain rfl : y = 2 := by omega
                  exact itab_K_12_10_2
            · rcases Nat.lt_or_ge y 4 with gy | gy
              · obtain rfl : y = 3 := by omega
                exact itab_K_12_10_3
              · rcases Nat.lt_or_ge y 5 with gy | gy
                · obtain rfl : y = 4 := by omega
                  exact itab_K_12_10_4
                · obtain rfl : y = 5 := by omega
                  exact itab_K_12_10_5
          · rcases Nat.lt_or_ge y 9 with gy | gy
            · rcases Nat.lt_or_ge y 7 with gy | gy
              · obtain rfl : y = 6 := by omega
                exact itab_K_12_10_6
              · rcases Nat.lt_or_ge y 8 with gy | gy
                · obtain rfl : y = 7 := by omega
                  exact itab_K_12_10_7
                · obtain rfl : y = 8 := by omega
                  exact itab_K_12_10_8
            · rcases Nat.lt_or_ge y 10 with gy | gy
              · obtain rfl : y = 9 := by omega
                exact itab_K_12_10_9
              · rcases Nat.lt_or_ge y 11 with gy | gy
                · obtain rfl : y = 10 := by omega
                  exact itab_K_12_10_10
                · obtain rfl : y = 11 := by omega
                  exact itab_K_12_10_11
theorem itab_K13 (x y : Nat) (hx : x < 12) (hy : y < 13) : runM 4 [] [.and 0 15 13, .and 1 15 x, .and 2 15 y] 3 [.int .i64 (.var 0), .int .i64 (.var 1), .int .i64 (.var 2)] = true := by
  rcases Nat.lt_or_ge x 6 with gx | gx
  · rcases Nat.lt_or_ge x 3 with gx | gx
    · rcases Nat.lt_or_ge x 1 with gx | gx
      · obtain rfl : x = 0 := by omega
        rcases Nat.lt_or_ge y 6 with gy | gy
        · rcases Nat.lt_or_ge y 3 with gy | gy
          · rcases Nat.lt_or_ge y 1 with gy | gy
            · obtain rfl : y = 0 := by omega
              exact itab_K_13_0_0
            · rcases Nat.lt_or_ge y 2 with gy | gy
              · obtain rfl : y = 1 := by omega
                exact itab_K_13_0_1
              · obtain rfl : y = 2 := by omega
                exact itab_K_13_0_2
          · rcases Nat.lt_or_ge y 4 with gy | gy
            · obtain rfl : y = 3 := by omega
              exact itab_K_13_0_3
            · rcases Nat.lt_or_ge y 5 with gy | gy
              · obtain rfl : y = 4 := by omega
                exact itab_K_13_0_4
              · obtain rfl : y = 5 := by omega
                exact itab_K_13_0_5
        · rcases Nat.lt_or_ge y 9 with gy | gy
          · rcases Nat.lt_or_ge y 7 with gy | gy
            · obtain rfl : y = 6 := by omega
              exact itab_K_13_0_6
            · rcases Nat.lt_or_ge y 8 with gy | gy
              · obtain rfl : y = 7 := by omega
                exact itab_K_13_0_7
              · obtain rfl : y = 8 := by omega
                exact itab_K_13_0_8
          · rcases Nat.lt_or_ge y 11 with gy | gy
            · rcases Nat.lt_or_ge y 10 with gy | gy
              · obtain rfl : y = 9 := by omega
                exact itab_K_13_0_9
              · obtain rfl : y = 10 := by omega
                exact itab_K_13_0_10
            · rcases Nat.lt_or_ge y 12 with gy | gy
              · obtain rfl : y = 11 := by omega
                exact itab_K_13_0_11
              · obtain rfl : y = 12 := by omega
                exact itab_K_13_0_12
      · rcases Nat.lt_or_ge x 2 with gx | gx
        · obtain rfl : x = 1 := by omega
          rcases Nat.lt_or_ge y 6 with gy | gy
          · rcases Nat.lt_or_ge y 3 with gy | gy
            · rcases Nat.lt_or_ge y 1 with gy | gy
              · obtain rfl : y = 0 := by omega
                exact itab_K_13_1_0
              · rcases Nat.lt_or_ge y 2 with gy | gy
                · obtain rfl : y = 1 := by omega
                  exact itab_K_13_1_1
                · obtain rfl : y = 2 := by omega
                  exact itab_K_13_1_2
            · rcases Nat.lt_or_ge y 4 with gy | gy
              · obtain rfl : y = 3 := by omega
                exact itab_K_13_1_3
              · rcases Nat.lt_or_ge y 5 with gy | gy
                · obtain rfl : y = 4 := by omega
                  exact itab_K_13_1_4
                · obtain rfl : y = 5 := by omega
                  exact itab_K_13_1_5
          · rcases Nat.lt_or_ge y 9 with gy | gy
            · rcases Nat.lt_or_ge y 7 with gy | gy
              · obtain rfl : y = 6 := by omega
                exact itab_K_13_1_6
              · rcases Nat.lt_or_ge y 8 with gy | gy
                · obtain rfl : y = 7 := by omega
                  exact itab_K_13_1_7
                · obtain rfl : y = 8 := by omega
                  exact itab_K_13_1_8
            · rcases Nat.lt_or_ge y 11 with gy | gy
              · rcases Nat.lt_or_ge y 10 with gy | gy
                · obtain rfl : y = 9 := by omega
                  exact itab_K_13_1_9
                · obtain rfl : y = 10 := by omega
                  exact itab_K_13_1_10
              · rcases Nat.lt_or_ge y 12 with gy | gy
                · obtain rfl : y = 11 := by omega
                  exact itab_K_13_1_11
                · obtain rfl : y = 12 := by omega
                  exact itab_K_13_1_12
        · obtain rfl : x = 2 := by omega
          rcases Nat.lt_or_ge y 6 with gy | gy
          · rcases Nat.lt_or_ge y 3 with gy | gy
            · rcases Nat.lt_or_ge y 1 with gy | gy
              · obtain rfl : y = 0 := by omega
                exact itab_K_13_2_0
              · rcases Nat.lt_or_ge y 2 with gy | gy
                · obtain rfl : y = 1 := by omega
                  exact itab_K_13_2_1
                · obtain rfl : y = 2 := by omega
                  exact itab_K_13_2_2
            · rcases Nat.lt_or_ge y 4 with gy | gy
              · obtain rfl : y = 3 := by omega
                exact itab_K_13_2_3
              · rcases Nat.lt_or_ge y 5 with gy | gy
                · obtain rfl : y = 4 := by omega
                  exact itab_K_13_2_4
                · obtain rfl : y = 5 := by omega
                  exact itab_K_13_2_5
          · rcases Nat.lt_or_ge y 9 with gy | gy
            · rcases Nat.lt_or_ge y 7 with gy | gy
              · obtain rfl : y = 6 := by omega
                exact itab_K_13_2_6
              · rcases Nat.lt_or_ge y 8 with gy | gy
                · obtain rfl : y = 7 := by omega
                  exact itab_K_13_2_7
                · obtain rfl : y = 8 := by omega
                  exact itab_K_13_2_8
            · rcases Nat.lt_or_ge y 11 with gy | gy
              · rcases Nat.lt_or_ge y 10 with gy | gy
                · obtain rfl : y = 9 := by omega
                  exact itab_K_13_2_9
                · obtain rfl : y = 10 := by omega
                  exact itab_K_13_2_10
              · rcases Nat.lt_or_ge y 12 with gy | gy
                · obtain rfl : y = 11 := by omega
                  exact itab_K_13_2_11
                · obtain rfl : y = 12 := by omega
                  exact itab_K_13_2_12
    · rcases Nat.lt_or_ge x 4 with gx | gx
      · obtain rfl : x = 3 := by omega
        rcases Nat.lt_or_ge y 6 with gy | gy
        · rcases Nat.lt_or_ge y 3 with gy | gy
          · rcases Nat.lt_or_ge y 1 with gy | gy
            · obtain rfl : y = 0 := by omega
              exact itab_K_13_3_0
            · rcases Nat.lt_or_ge y 2 with gy | gy
              · obtain rfl : y = 1 := by omega
                exact itab_K_13_3_1
              · obtain rfl : y = 2 := by omega
                exact itab_K_13_3_2
          · rcases Nat.lt_or_ge y 4 with gy | gy
            · obtain rfl : y = 3 := by omega
              exact itab_K_13_3_3
            · rcases Nat.lt_or_ge y 5 with gy | gy
              · obtain rfl : y = 4 := by omega
                exact itab_K_13_3_4
              · obtain rfl : y = 5 := by omega
                exact itab_K_13_3_5
        · rcases Nat.lt_or_ge y 9 with gy | gy
          · rcases Nat.lt_or_ge y 7 with gy | gy
            · obtain rfl : y = 6 := by omega
              exact itab_K_13_3_6
            · rcases Nat.lt_or_ge y 8 with gy | gy
              · obtain rfl : y = 7 := by omega
                exact itab_K_13_3_7
              · obtain rfl : y = 8 := by omega
                exact itab_K_13_3_8
          · rcases Nat.lt_or_ge y 11 with gy | gy
            · rcases Nat.lt_or_ge y 10 with gy | gy
              · obtain rfl : y = 9 := by omega
                exact itab_K_13_3_9
              · obtain rfl : y = 10 := by omega
                exact itab_K_13_3_10
            · rcases Nat.lt_or_ge y 12 with gy | gy
              · obtain rfl : y = 11 := by omega
                exact itab_K_13_3_11
              · obtain rfl : y = 12 := by omega
                exact itab_K_13_3_12
      · rcases Nat.lt_or_ge x 5 with gx | gx
        · obtain rfl : x = 4 := by omega
          rcases Nat.lt_or_ge y 6 with gy | gy
          · rcases Nat.lt_or_ge y 3 with gy | gy
            · rcases Nat.lt_or_ge y 1 with gy | gy
              · obtain rfl : y = 0 := by omega
                exact itab_K_13_4_0
              · rcases Nat.lt_or_ge y 2 with gy | gy
                · obtain rfl : y = 1 := by omega
                  exact itab_K_13_4_1
                · obtain rfl : y = 2 := by omega
                  exact itab_K_13_4_2
            · rcases Nat.lt_or_ge y 4 with gy | gy
              · obtain rfl : y = 3 := by omega
                exact itab_K_13_4_3
              · rcases Nat.lt_or_ge y 5 with gy | gy
                · obtain rfl : y = 4 := by omega
                  exact itab_K_13_4_4
                · obtain rfl : y = 5 := by omega
                  exact itab_K_13_4_5
          · rcases Nat.lt_or_ge y 9 with gy | gy
            · rcases Nat.lt_or_ge y 7 with gy | gy
              · obtain rfl : y = 6 := by omega
                exact itab_K_13_4_6
              · rcases Nat.lt_or_ge y 8 with gy | gy
                · obtain rfl : y = 7 := by omega
                  exact itab_K_13_4_7
                · obtain rfl : y = 8 := by omega
                  exact itab_K_13_4_8
            · rcases Nat.lt_or_ge y 11 with gy | gy
              · rcases Nat.lt_or_ge y 10 with gy | gy
                · obtain rfl : y = 9 := by omega
                  exact itab_K_13_4_9
                · obtain rfl : y = 10 := by omega
                  exact itab_K_13_4_10
              · rcases Nat.lt_or_ge y 12 with gy | gy
                · obtain rfl : y = 11 := by omega
                  exact itab_K_13_4_11
                · obtain rfl : y = 12 := by omega
                  exact itab_K_13_4_12
        · obtain rfl : x = 5 := by omega
          rcases Nat.lt_or_ge y 6 with gy | gy
          · rcases Nat.lt_or_ge y 3 with gy | gy
            · rcases Nat.lt_or_ge y 1 with gy | gy
              · obtain rfl : y = 0 := by omega
                exact itab_K_13_5_0
              · rcases Nat.lt_or_ge y 2 with gy | gy
                · obtain rfl : y = 1 := by omega
                  exact itab_K_13_5_1
                · obtain rfl : y = 2 := by omega
                  exact itab_K_13_5_2
            · rcases Nat.lt_or_ge y 4 with gy | gy
              · obtain rfl : y = 3 := by omega
                exact itab_K_13_5_3
              · rcases Nat.lt_or_ge y 5 with gy | gy
                · obtain rfl : y = 4 := by omega
                  exact itab_K_13_5_4
                · obtain rfl : y = 5 := by omega
                  exact itab_K_13_5_5
          · rcases Nat.lt_or_ge y 9 with gy | gy
            · rcases Nat.lt_or_ge y 7 with gy | gy
              · obtain rfl : y = 6 := by omega
                exact itab_K_13_5_6
              · rcases Nat.lt_or_ge y 8 with gy | gy
                · obtain rfl : y = 7 := by omega
                  exact itab_K_13_5_7
                · obtain rfl : y = 8 := by omega
                  exact itab_K_13_5_8
            · rcases Nat.lt_or_ge y 11 with gy | gy
              · rcases Nat.lt_or_ge y 10 with gy | gy
                · obtain rfl : y = 9 := by omega
                  exact itab_K_13_5_9
                · obtain rfl : y = 10 := by omega
                  exact itab_K_13_5_10
              · rcases Nat.lt_or_ge y 12 with gy | gy
                · obtain rfl : y = 11 := by omega
                  exact itab_K_13_5_11
                · obtain rfl : y = 12 := by omega
                  exact itab_K_13_5_12
  · rcases Nat.lt_or_ge x 9 with gx | gx
    · rcases Nat.lt_or_ge x 7 with gx | gx
      · obtain rfl : x = 6 := by omega
        rcases Nat.lt_or_ge y 6 with gy | gy
        · rcases Nat.lt_or_ge y 3 with gy | gy
          · rcases Nat.lt_or_ge y 1 with gy | gy
            · obtain rfl : y = 0 := by omega
              exact itab_K_13_6_0
            · rcases Nat.lt_or_ge y 2 with gy | gy
              · obtain rfl : y = 1 := by omega
                exact itab_K_13_6_1
              · obtain rfl : y = 2 := by omega
                exact itab_K_13_6_2
          · rcases Nat.lt_or_ge y 4 with gy | gy
            · obtain rfl : y = 3 := by omega
              exact itab_K_13_6_3
            · rcases Nat.lt_or_ge y 5 with gy | gy
              · obtain rfl : y = 4 := by omega
                exact itab_K_13_6_4
              · obtain rfl : y = 5 := by omega
                exact itab_K_13_6_5
        · rcases Nat.lt_or_ge y 9 with gy | gy
          · rcases Nat.lt_or_ge y 7 with gy | gy
            · obtain rfl : y = 6 := by omega
              exact itab_K_13_6_6
            · rcases Nat.lt_or_ge y 8 with gy | gy
              · obtain rfl : y = 7 := by omega
                exact itab_K_13_6_7
              · obtain rfl : y = 8 := by omega
                exact itab_K_13_6_8
          · rcases Nat.lt_or_ge y 11 with gy | gy
            · rcases Nat.lt_or_ge y 10 with gy | gy
              · obtain rfl : y = 9 := by omega
                exact itab_K_13_6_9
              · obtain rfl : y = 10 := by omega
                exact itab_K_13_6_10
            · rcases Nat.lt_or_ge y 12 with gy | gy
              · obtain rfl : y = 11 := by omega
                exact itab_K_13_6_11
              · obtain rfl : y = 12 := by omega
                exact itab_K_13_6_12
      · rcases Nat.lt_or_ge x 8 with gx | gx
        · obtain rfl : x = 7 := by omega
          rcases Nat.lt_or_ge y 6 with gy | gy
          · rcases Nat.lt_or_ge y 3 with gy | gy
            · rcases Nat.lt_or_ge y 1 with gy | gy
              · obtain rfl : y = 0 := by omega
                exact itab_K_13_7_0
              · rcases Nat.lt_or_ge y 2 with gy | gy
                · obtain rfl : y = 1 := by omega
                  exact itab_K_13_7_1
                · obtain rfl : y = 2 := by omega
                  exact itab_K_13_7_2
            · rcases Nat.lt_or_ge y 4 with gy | gy
              · obtain rfl : y = 3 := by omega
                exact itab_K_13_7_3
              · rcases Nat.lt_or_ge y 5 with gy | gy
                · obtain rfl : y = 4 := by omega
                  exact itab_K_13_7_4
                · obtain rfl : y = 5 := by omega
                  exact itab_K_13_7_5
          · rcases Nat.lt_or_ge y 9 with gy | gy
            · rcases Nat.lt_or_ge y 7 with gy | gy
              · obtain rfl : y = 6 := by omega
                exact itab_K_13_7_6
              · rcases Nat.lt_or_ge y 8 with gy | gy
                · obtain rfl : y = 7 := by omega
                  exact itab_K_13_7_7
                · obtain rfl : y = 8 := by omega
                  exact itab_K_13_7_8
            · rcases Nat.lt_or_ge y 11 with gy | gy
              · rcases Nat.lt_or_ge y 10 with gy | gy
                · obtain rfl : y = 9 := by omega
                  exact itab_K_13_7_9
                · obtain rfl : y = 10 := by omega
                  exact itab_K_13_7_10
              · rcases Nat.lt_or_ge y 12 with gy | gy
                · obtain rfl : y = 11 := by omega
                  exact itab_K_13_7_11
                · obtain rfl : y = 12 := by omega
                  exact itab_K_13_7_12
        · obtain rfl : x = 8 := by omega
          rcases Nat.lt_or_ge y 6 with gy | gy
          · rcases Nat.lt_or_ge y 3 with gy | gy
            · rcases Nat.lt_or_ge y 1 with gy | gy
              · obtain rfl : y = 0 := by omega
                exact itab_K_13_8_0
              · rcases Nat.lt_or_ge y 2 with gy | gy
                · obtain rfl : y = 1 := by omega
                  exact itab_K_13_8_1
                · obtain rfl : y = 2 := by omega
                  exact itab_K_13_8_2
            · rcases Nat.lt_or_ge y 4 with gy | gy
              · obtain rfl : y = 3 := by omega
                exact itab_K_13_8_3
              · rcases Nat.lt_or_ge y 5 with gy | gy
                · obtain rfl : y = 4 := by omega
                  exact itab_K_13_8_4
                · obtain rfl : y = 5 := by omega
                  exact itab_K_13_8_5
          · rcases Nat.lt_or_ge y 9 with gy | gy
            · rcases Nat.lt_or_ge y 7 with gy | gy
              · obtain rfl : y = 6 := by omega
                exact itab_K_13_8_6
              · rcases Nat.lt_or_ge y 8 with gy | gy
                · obtain rfl : y = 7 := by omega
                  exact itab_K_13_8_7
                · obtain rfl : y = 8 := by omega
                  exact itab_K_13_8_8
            · rcases Nat.lt_or_ge y 11 with gy | gy
              · rcases Nat.lt_or_ge y 10 with gy | gy
                · obtain rfl : y = 9 := by omega
                  exact itab_K_13_8_9
                · obtain rfl : y = 10 := by omega
                  exact itab_K_13_8_10
              · rcases Nat.lt_or_ge y 12 with gy | gy
                · obtain rfl : y = 11 := by omega
                  exact itab_K_13_8_11
                · obtain rfl : y = 12 := by omega
                  exact itab_K_13_8_12
    · rcases Nat.lt_or_ge x 10 with gx | gx
      · obtain rfl : x = 9 := by omega
        rcases Nat.lt_or_ge y 6 with gy | gy
        · rcases Nat.lt_or_ge y 3 with gy | gy
          · rcases Nat.lt_or_ge y 1 with gy | gy
            · obtain rfl : y = 0 := by omega
              exact itab_K_13_9_0
            · rcases Nat.lt_or_ge y 2 with gy | gy
              · obtain rfl : y = 1 := by omega
                exact itab_K_13_9_1
              · obtain rfl : y = 2 := by omega
                exact itab_K_13_9_2
          · rcases Nat.lt_or_ge y 4 with gy | gy
            · obtain rfl : y = 3 := by omega
              exact itab_K_13_9_3
            · rcases Nat.lt_or_ge y 5 with gy | gy
              · obtain rfl : y = 4 := by omega
                exact itab_K_13_9_4
              · obtain rfl : y = 5 := by omega
                exact itab_K_13_9_5
        · rcases Nat.lt_or_ge y 9 with gy | gy
          · rcases Nat.lt_or_ge y 7 with gy | gy
            · obtain rfl : y = 6 := by omega
              exact itab_K_13_9_6
            · rcases Nat.lt_or_ge y 8 with gy | gy
              · obtain rfl : y = 7 := by omega
                exact itab_K_13_9_7
              · obtain rfl : y = 8 := by omega
                exact itab_K_13_9_8
          · rcases Nat.lt_or_ge y 11 with gy | gy
            · rcases Nat.lt_or_ge y 10 with gy | gy
              · obtain rfl : y = 9 := by omega
                exact itab_K_13_9_9
              · obtain rfl : y = 10 := by omega
                exact itab_K_13_9_10
            · rcases Nat.lt_or_ge y 12 with gy | gy
              · obtain rfl : y = 11 := by omega
                exact itab_K_13_9_11
              · obtain rfl : y = 12 := by omega
                exact itab_K_13_9_12
      · rcases Nat.lt_or_ge x 11 with gx | gx
        · obtain rfl : x = 10 := by omega
          rcases Nat.lt_or_ge y 6 with gy | gy
          · rcases Nat.lt_or_ge y 3 with gy | gy
            · rcases Nat.lt_or_ge y 1 with gy | gy
              · obtain rfl : y = 0 := by omega
                exact itab_K_13_10_0
              · rcases Nat.lt_or_ge y 2 with gy | gy
                · obtain rfl : y = 1 := by omega
                  exact itab_K_13_10_1
                · obtain rfl : y = 2 := by omega
                  exact itab_K_13_10_2
            · rcases Nat.lt_or_ge y 4 with gy | gy
              · obtain rfl : y = 3 := by omega
                exact itab_K_13_10_3
              · rcases Nat.lt_or_ge y 5 with gy | gy
                · obtain rfl : y = 4 := by omega
                  exact itab_K_13_10_4
                · obtain rfl : y = 5 := by omega
                  exact itab_K_13_10_5
          · rcases Nat.lt_or_ge y 9 with gy | gy
            · rcases Nat.lt_or_ge y 7 with gy | gy
              · obtain rfl : y = 6 := by omega
                exact itab_K_13_10_6
              · rcases Nat.lt_or_ge y 8 with gy | gy
                · obtain rfl : y = 7 := by omega
                  exact itab_K_13_10_7
                · obtain rfl : y = 8 := by omega
                  exact itab_K_13_10_8
            · rcases Nat.lt_or_ge y 11 with gy | gy
              · rcases Nat.lt_or_ge y 10 with gy | gy
                · obtain rfl : y = 9 := by omega
                  exact itab_K_13_10_9
                · obtain rfl : y = 10 := by omega
                  exact itab_K_13_10_10
              · rcases Nat.lt_or_ge y 12 with gy | gy
                · obtain rfl : y = 11 := by omega
                  exact itab_K_13_10_11
                · obtain rfl : y = 12 := by omega
                  exact itab_K_13_10_12
        · obtain rfl : x = 11 := by omega
          rcases Nat.lt_or_ge y 6 with gy | gy
          · rcases Nat.lt_or_ge y 3 with gy | gy
            · rcases Nat.lt_or_ge y 1 with gy | gy
              · obtain rfl : y = 0 := by omega
                exact itab_K_13_11_0
              · rcases Nat.lt_or_ge y 2 with gy | gy
                · obtain rfl : y = 1 := by omega
                  exact itab_K_13_11_1
                · obtain rfl : y = 2 := by omega
                  exact itab_K_13_11_2
            · rcases Nat.lt_or_ge y 4 with gy | gy
              · obtain rfl : y = 3 := by omega
                exact itab_K_13_11_3
              · rcases Nat.lt_or_ge y 5 with gy | gy
                · obtain rfl : y = 4 := by omega
                  exact itab_K_13_11_4
                · obtain rfl : y = 5 := by omega
                  exact itab_K_13_11_5
          · rcases Nat.lt_or_ge y 9 with gy | gy
            · rcases Nat.lt_or_ge y 7 with gy | gy
              · obtain rfl : y = 6 := by omega
                exact itab_K_13_11_6
              · rcases Nat.lt_or_ge y 8 with gy | gy
                · obtain rfl : y = 7 := by omega
                  exact itab_K_13_11_7
                · obtain rfl : y = 8 := by omega
                  exact itab_K_13_11_8
            · rcases Nat.lt_or_ge y 11 with gy | gy
              · rcases Nat.lt_or_ge y 10 with gy | gy
                · obtain rfl : y = 9 := by omega
                  exact itab_K_13_11_9
                · obtain rfl : y = 10 := by omega
                  exact itab_K_13_11_10
              · rcases Nat.lt_or_ge y 12 with gy | gy
                · obtain rfl : y = 11 := by omega
                  exact itab_K_13_11_11
                · obtain rfl : y = 12 := by omega
                  exact itab_K_13_11_12
theorem itab_K14 (x y : Nat) (hx : x < 13) (hy : y < 14) : runM 4 [] [.and 0 15 14, .and 1 15 x, .and 2 15 y] 3 [.int .i64 (.var 0), .int .i64 (.var 1), .int .i64 (.var 2)] = true := by
  rcases Nat.lt_or_ge x 6 with gx | gx
  · rcases Nat.lt_or_ge x 3 with gx | gx
    · rcases Nat.lt_or_ge x 1 with gx | gx
      · obtain rfl : x = 0 := by omega
        rcases Nat.lt_or_ge y 7 with gy | gy
        · rcases Nat.lt_or_ge y 3 with gy | gy
          · rcases Nat.lt_or_ge y 1 with gy | gy
            · obtain rfl : y = 0 := by omega
              exact itab_K_14_0_0
            · rcases Nat.lt_or_ge y 2 with gy | gy
              · obtain rfl : y = 1 := by omega
                exact itab_K_14_0_1
              · obtain rfl : y = 2 := by omega
                exact itab_K_14_0_2
          · rcases Nat.lt_or_ge y 5 with gy | gy
            · rcases Nat.lt_or_ge y 4 with gy | gy
              · obtain rfl : y = 3 := by omega
                exact itab_K_14_0_3
              · obtain rfl : y = 4 := by omega
                exact itab_K_14_0_4
            · rcases Nat.lt_or_ge y 6 with gy | gy
              · obtain rfl : y = 5 := by omega
                exact itab_K_14_0_5
              · obtain rfl : y = 6 := by omega
                exact itab_K_14_0_6
        · rcases Nat.lt_or_ge y 10 with gy | gy
          · rcases Nat.lt_or_ge y 8 with gy | gy
            · obtain rfl : y = 7 := by omega
              exact itab_K_14_0_7
            · rcases Nat.lt_or_ge y 9 with gy | gy
              · obtain rfl : y = 8 := by omega
                exact itab_K_14_0_8
              · obtain rfl : y = 9 := by omega
                exact itab_K_14_0_9
          · rcases Nat.lt_or_ge y 12 with gy | gy
            · rcases Nat.lt_or_ge y 11 with gy | gy
              · obtain rfl : y = 10 := by omega
                exact itab_K_14_0_10
              · obtain rfl : y = 11 := by omega
                exact itab_K_14_0_11
            · rcases Nat.lt_or_ge y 13 with gy | gy
              · obtain rfl : y = 12 := by omega
                exact itab_K_14_0_12
              · obtain rfl : y = 13 := by omega
                exact itab_K_14_0_13
      · rcases Nat.lt_or_ge x 2 with gx | gx
        · obtain rfl : x = 1 := by omega
          rcases Nat.lt_or_ge y 7 with gy | gy
          · rcases Nat.lt_or_ge y 3 with gy | gy
            · rcases Nat.lt_or_ge y 1 with gy | gy
              · obtain rfl : y = 0 := by omega
                exact itab_K_14_1_0
              · rcases Nat.lt_or_ge y 2 with gy | gy
                · obtain rfl : y = 1 := by omega
                  exact itab_K_14_1_1
                · obtain rfl : y = 2 := by omega
                  exact itab_K_14_1_2
            · rcases Nat.lt_or_ge y 5 with gy | gy
              · rcases Nat.lt_or_ge y 4 with gy | gy
                · obtain rfl : y = 3 := by omega
                  exact itab_K_14_1_3
                · obtain rfl : y = 4 := by omega
                  exact itab_K_14_1_4
              · rcases Nat.lt_or_ge y 6 with gy | gy
                · obtain rfl : y = 5 := by omega
                  exact itab_K_14_1_5
                · obtain rfl : y = 6 := by omega
                  exact itab_K_14_1_6
          · rcases Nat.lt_or_ge y 10 with gy | gy
            · rcases Nat.lt_or_ge y 8 with gy | gy
              · obtain rfl : y = 7 := by omega
                exact itab_K_14_1_7
              · rcases Nat.lt_or_ge y 9 with gy | gy
                · obtain rfl : y = 8 := by omega
                  exact itab_K_14_1_8
                · obtain rfl : y = 9 := by omega
                  exact itab_K_14_1_9
            · rcases Nat.lt_or_ge y 12 with gy | gy
              · rcases Nat.lt_or_ge y 11 with gy | gy
                · obtain rfl : y = 10 := by omega
                  exact itab_K_14_1_10
                · obtain rfl : y = 11 := by omega
                  exact itab_K_14_1_11
              · rcases Nat.lt_or_ge y 13 with gy | gy
                · obtain rfl : y = 12 := by omega
                  exact itab_K_14_1_12
                · obtain rfl : y = 13 := by omega
                  exact itab_K_14_1_13
        · obtain rfl : x = 2 := by omega
          rcases Nat.lt_or_ge y 7 with gy | gy
          · rcases Nat.lt_or_ge y 3 with gy | gy
            · rcases Nat.lt_or_ge y 1 with gy | gy
              · obtain rfl : y = 0 := by omega
                exact itab_K_14_2_0
              · rcases Nat.lt_or_ge y 2 with gy | gy
                · obtain rfl : y = 1 := by omega
                  exact itab_K_14_2_1
                · obtain rfl : y = 2 := by omega
                  exact itab_K_14_2_2
            · rcases Nat.lt_or_ge y 5 with gy | gy
              · rcases Nat.lt_or_ge y 4 with gy | gy
                · obtain rfl : y = 3 := by omega
                  exact itab_K_14_2_3
                · obtain rfl : y = 4 := by omega
                  exact itab_K_14_2_4
              · rcases Nat.lt_or_ge y 6 with gy | gy
                · obtain rfl : y = 5 := by omega
                  exact itab_K_14_2_5
                · obtain rfl : y = 6 := by omega
                  exact itab_K_14_2_6
          · rcases Nat.lt_or_ge y 10 with gy | gy
            · rcases Nat.lt_or_ge y 8 with gy | gy
              · obtain rfl : y = 7 := by omega
                exact itab_K_14_2_7
              · rcases Nat.lt_or_ge y 9 with gy | gy
                · obtain rfl : y = 8 := by omega
                  exact itab_K_14_2_8
                · obtain rfl : y = 9 := by omega
                  exact itab_K_14_2_9
            · rcases Nat.lt_or_ge y 12 with gy | gy
              · rcases Nat.lt_or_ge y 11 with gy | gy
                · obtain rfl : y = 10 := by omega
                  exact itab_K_14_2_10
                · obtain rfl : y = 11 := by omega
                  exact itab_K_14_2_11
              · rcases Nat.lt_or_ge y 13 with gy | gy
                · obtain rfl : y = 12 := by omega
                  exact itab_K_14_2_12
                · obtain rfl : y = 13 := by omega
                  exact itab_K_14_2_13
    · rcases Nat.lt_or_ge x 4 with gx | gx
      · obtain rfl : x = 3 := by omega
        rcases Nat.lt_or_ge y 7 with gy | gy
        · rcases Nat.lt_or_ge y 3 with gy | gy
          · rcases Nat.lt_or_ge y 1 with gy | gy
            · obtain rfl : y = 0 := by omega
              exact itab_K_14_3_0
            · rcases Nat.lt_or_ge y 2 with gy | gy
              · obtain rfl : y = 1 := by omega
                exact itab_K_14_3_1
              · obtain rfl : y = 2 := by omega
                exact itab_K_14_3_2
          · rcases Nat.lt_or_ge y 5 with gy | gy
            · rcases Nat.lt_or_ge y 4 with gy | gy
              · obtain rfl : y = 3 := by omega
                exact itab_K_14_3_3
              · obtain rfl : y = 4 := by omega
                exact itab_K_14_3_4
            · rcases Nat.lt_or_ge y 6 with gy | gy
              · obtain rfl : y = 5 := by omega
                exact itab_K_14_3_5
              · obtain rfl : y = 6 := by omega
                exact itab_K_14_3_6
        · rcases Nat.lt_or_ge y 10 with gy | gy
          · rcases Nat.lt_or_ge y 8 with gy | gy
            · obtain rfl : y = 7 := by omega
              exact itab_K_14_3_7
            · rcases Nat.lt_or_ge y 9 with gy | gy
              · obtain rfl : y = 8 := by omega
                exact itab_K_14_3_8
              · obtain rfl : y = 9 := by omega
                exact itab_K_14_3_9
          · rcases Nat.lt_or_ge y 12 with gy | gy
            · rcases Nat.lt_or_ge y 11 with gy | gy
              · obtain rfl : y = 10 := by omega
                exact itab_K_14_3_10
              · obtain rfl : y = 11 := by omega
                exact itab_K_14_3_11
            · rcases Nat.lt_or_ge y 13 with gy | gy
              · obtain rfl : y = 12 := by omega
                exact itab_K_14_3_12
              · obtain rfl : y = 13 := by omega
                exact itab_K_14_3_13
      · rcases Nat.lt_or_ge x 5 with gx | gx
        · obtain rfl : x = 4 := by omega
          rcases Nat.lt_or_ge y 7 with gy | gy
          · rcases Nat.lt_or_ge y 3 with gy | gy
            · rcases Nat.lt_or_ge y 1 with gy | gy
              · obtain rfl : y = 0 := by omega
                exact itab_K_14_4_0
              · rcases Nat.lt_or_ge y 2 with gy | gy
                · obtain rfl : y = 1 := by omega
                  exact itab_K_14_4_1
                · obtain rfl : y = 2 := by omega
                  exact itab_K_14_4_2
            · rcases Nat.lt_or_ge y 5 with gy | gy
              · rcases Nat.lt_or_ge y 4 with gy | gy
                · obtain rfl : y = 3 := by omega
                  exact itab_K_14_4_3
                · obtain rfl : y = 4 := by omega
                  exact itab_K_14_4_4
              · rcases Nat.lt_or_ge y 6 with gy | gy
                · obtain rfl : y = 5 := by omega
                  exact itab_K_14_4_5
                · obtain rfl : y = 6 := by omega
                  exact itab_K_14_4_6
          · rcases Nat.lt_or_ge y 10 with gy | gy
            · rcases Nat.lt_or_ge y 8 with gy | gy
              · obtain rfl : y = 7 := by omega
                exact itab_K_14_4_7
              · rcases Nat.lt_or_ge y 9 with gy | gy
                · obtain rfl : y = 8 := by omega
                  exact itab_K_14_4_8
                · obtain rfl : y = 9 := by omega
                  exact itab_K_14_4_9
            · rcases Nat.lt_or_ge y 12 with gy | gy
              · rcases Nat.lt_or_ge y 11 with gy | gy
                · obtain rfl : y = 10 := by omega
                  exact itab_K_14_4_10
                · obtain rfl : y = 11 := by omega
                  exact itab_K_14_4_11
              · rcases Nat.lt_or_ge y 13 with gy | gy
                · obtain rfl : y = 12 := by omega
                  exact itab_K_14_4_12
                · obtain rfl : y = 13 := by omega
                  exact itab_K_14_4_13
        · obtain rfl : x = 5 := by omega
          rcases Nat.lt_or_ge y 7 with gy | gy
          · rcases Nat.lt_or_ge y 3 with gy | gy
            · rcases Nat.lt_or_ge y 1 with gy | gy
              · obtain rfl : y = 0 := by omega
                exact itab_K_14_5_0
              · rcases Nat.lt_or_ge y 2 with gy | gy
                · obtain rfl : y = 1 := by omega
                  exact itab_K_14_5_1
                · obtain rfl : y = 2 := by omega
                  exact itab_K_14_5_2
            · rcases Nat.lt_or_ge y 5 with gy | gy
              · rcases Nat.lt_or_ge y 4 with gy | gy
                · obtain rfl : y = 3 := by omega
                  exact itab_K_14_5_3
                · obtain rfl : y = 4 := by omega
                  exact itab_K_14_5_4
              · rcases Nat.lt_or_ge y 6 with gy | gy
                · obtain rfl : y = 5 := by omega
                  exact itab_K_14_5_5
                · obtain rfl : y = 6 := by omega
                  exact itab_K_14_5_6
          · rcases Nat.lt_or_ge y 10 with gy | gy
            · rcases Nat.lt_or_ge y 8 with gy | gy
              · obtain rfl : y = 7 := by omega
                exact itab_K_14_5_7
              · rcases Nat.lt_or_ge y 9 with gy | gy
                · obtain rfl : y = 8 := by omega
                  exact itab_K_14_5_8
                · obtain rfl : y = 9 := by omega
                  exact itab_K_14_5_9
            · rcases Nat.lt_or_ge y 12 with gy | gy
              · rcases Nat.lt_or_ge y 11 with gy | gy
                · obtain rfl : y = 10 := by omega
                  exact itab_K_14_5_10
                · obtain rfl : y = 11 := by omega
                  exact itab_K_14_5_11
              · rcases Nat.lt_or_ge y 13 with gy | gy
                · obtain rfl : y = 12 := by omega
                  exact itab_K_14_5_12
                · obtain rfl : y = 13 := by omega
                  exact itab_K_14_5_13
  · rcases Nat.lt_or_ge x 9 with gx | gx
    · rcases Nat.lt_or_ge x 7 with gx | gx
      · obtain rfl : x = 6 := by omega
        rcases Nat.lt_or_ge y 7 with gy | gy
        · rcases Nat.lt_or_ge y 3 with gy | gy
          · rcases Nat.lt_or_ge y 1 with gy | gy
            · obtain rfl : y = 0 := by omega
              exact itab_K_14_6_0
            · rcases Nat.lt_or_ge y 2 with gy | gy
              · obtain rfl : y = 1 := by omega
                exact itab_K_14_6_1
              · obtain rfl : y = 2 := by omega
                exact itab_K_14_6_2
          · rcases Nat.lt_or_ge y 5 with gy | gy
            · rcases Nat.lt_or_ge y 4 with gy | gy
              · obtain rfl : y = 3 := by omega
                exact itab_K_14_6_3
              · obtain rfl : y = 4 := by omega
                exact itab_K_14_6_4
            · rcases Nat.lt_or_ge y 6 with gy | gy
              · obtain rfl : y = 5 := by omega
                exact itab_K_14_6_5
              · obtain rfl : y = 6 := by omega
                exact itab_K_14_6_6
        · rcases Nat.lt_or_ge y 10 with gy | gy
          · rcases Nat.lt_or_ge y 8 with gy | gy
            · obtain rfl : y = 7 := by omega
              exact itab_K_14_6_7
            · rcases Nat.lt_or_ge y 9 with gy | gy
              · obtain rfl : y = 8 := by omega
                exact itab_K_14_6_8
              · obtain rfl : y = 9 := by omega
                exact itab_K_14_6_9
          · rcases Nat.lt_or_ge y 12 with gy | gy
            · rcases Nat.lt_or_ge y 11 with gy | gy
              · obtain rfl : y = 10 := by omega
                exact itab_K_14_6_10
              · obtain rfl : y = 11 := by omega
                exact itab_K_14_6_11
            · rcases Nat.lt_or_ge y 13 with gy | gy
              · obtain rfl : y = 12 := by omega
                exact itab_K_14_6_12
              · obtain rfl : y = 13 := by omega
                exact itab_K_14_6_13
      · rcases Nat.lt_or_ge x 8 with gx | gx
        · obtain rfl : x = 7 := by omega
          rcases Nat.lt_or_ge y 7 with gy | gy
          · rcases Nat.lt_or_ge y 3 with gy | gy
            · rcases Nat.lt_or_ge y 1 with gy | gy
              · obtain rfl : y = 0 := by omega
                exact itab_K_14_7_0
              · rcases Nat.lt_or_ge y 2 with gy | gy
                · obtain rfl : y = 1 := by omega
                  exact itab_K_14_7_1
                · obtain rfl : y = 2 := by omega
                  exact itab_K_14_7_2
            · rcases Nat.lt_or_ge y 5 with gy | gy
              · rcases Nat.lt_or_ge y 4 with gy | gy
                · obtain rfl : y = 3 := by omega
                  exact itab_K_14_7_3
                · obtain rfl : y = 4 := by omega
                  exact itab_K_14_7_4
              · rcases Nat.lt_or_ge y 6 with gy | gy
                · obtain rfl : y = 5 := by omega
                  exact itab_K_14_7_5
                · obtain rfl : y = 6 := by omega
                  exact itab_K_14_7_6
          · rcases Nat.lt_or_ge y 10 with gy | gy
            · rcases Nat.lt_or_ge y 8 with gy | gy
              · obtain rfl : y = 7 := by omega
                exact itab_K_14_7_7
              · rcases Nat.lt_or_ge y 9 with gy | gy
                · obtain rfl : y = 8 := by omega
                  exact itab_K_14_7_8
                · obtain rfl : y = 9 := by omega
                  exact itab_K_14_7_9
            · rcases Nat.lt_or_ge y 12 with gy | gy
              · rcases Nat.lt_or_ge y 11 with gy | gy
                · obtain rfl : y = 10 := by omega
                  exact itab_K_14_7_10
                · obtain rfl : y = 11 := by omega
                  exact itab_K_14_7_11
              · rcases Nat.lt_or_ge y 13 with gy | gy
                · obtain rfl : y = 12 := by omega
                  exact itab_K_14_7_12
                · obtain rfl : y = 13 := by omega
                  exact itab_K_14_7_13
        · obtain rfl : x = 8 := by omega
          rcases Nat.lt_or_ge y 7 with gy | gy
          · rcases Nat.lt_or_ge y 3 with gy | gy
            · rcases Nat.lt_or_ge y 1 with gy | gy
              · obtain rfl : y = 0 := by omega
                exact itab_K_14_8_0
              · rcases Nat.lt_or_ge y 2 with gy | gy
                · obtain rfl : y = 1 := by omega
                  exact itab_K_14_8_1
                · obtain rfl : y = 2 := by omega
                  exact itab_K_14_8_2
            · rcases Nat.lt_or_ge y 5 with gy | gy
              · rcases Nat.lt_or_ge y 4 with gy | gy
                · obtain rfl : y = 3 := by omega
                  exact itab_K_14_8_3
                · obtain rfl : y = 4 := by omega
                  exact itab_K_14_8_4
              · rcases Nat.lt_or_ge y 6 with gy | gy
                · obtain rfl : y = 5 := by omega
                  exact itab_K_14_8_5
                · obtain rfl : y = 6 := by omega
                  exact itab_K_14_8_6
          · rcases Nat.lt_or_ge y 10 with gy | gy
            · rcases Nat.lt_or_ge y 8 with gy | gy
              · obtain rfl : y = 7 := by omega
                exact itab_K_14_8_7
              · rcases Nat.lt_or_ge y 9 with gy | gy
                · obtain rfl : y = 8 := by omega
                  exact itab_K_14_8_8
                · obtain rfl : y = 9 := by omega
                  exact itab_K_14_8_9
            · rcases Nat.lt_or_ge y 12 with gy | gy
              · rcases Nat.lt_or_ge y 11 with gy | gy
                · obtain rfl : y = 10 := by omega
                  exact itab_K_14_8_10
                · obtain rfl : y = 11 := by omega
                  exact itab_K_14_8_11
              · rcases Nat.lt_or_ge y 13 with gy | gy
                · obtain rfl : y = 12 := by omega
                  exact itab_K_14_8_12
                · obtain rfl : y = 13 := by omega
                  exact itab_K_14_8_13
    · rcases Nat.lt_or_ge x 11 with gx | gx
      · rcases Nat.lt_or_ge x 10 with gx | gx
        · obtain rfl : x = 9 := by omega
          rcases Nat.lt_or_ge y 7 with gy | gy
          · rcases Nat.lt_or_ge y 3 with gy | gy
            · rcases Nat.lt_or_ge y 1 with gy | gy
              · obtain rfl : y = 0 := by omega
                exact itab_K_14_9_0
              · rcases Nat.lt_or_ge y 2 with gy | gy
                · obtain rfl : y = 1 := by omega
                  exact itab_K_14_9_1
                · obtain rfl : y = 2 := by omega
                  exact itab_K_14_9_2
            · rcases Nat.lt_or_ge y 5 with gy | gy
              · rcases Nat.lt_or_ge y 4 with gy | gy
                · obtain rfl : y = 3 := by omega
                  exact itab_K_14_9_3
                · obtain rfl : y = 4 := by omega
                  exact itab_K_14_9_4
              · rcases Nat.lt_or_ge y 6 with gy | gy
                · obtain rfl : y = 5 := by omega
                  exact itab_K_14_9_5
                · obtain rfl : y = 6 := by omega
                  exact itab_K_14_9_6
          · rcases Nat.lt_or_ge y 10 with gy | gy
            · rcases Nat.lt_or_ge y 8 with gy | gy
              · obtain rfl : y = 7 := by omega
                exact itab_K_14_9_7
              · rcases Nat.lt_or_ge y 9 with gy | gy
                · obtain rfl : y = 8 := by omega
                  exact itab_K_14_9_8
                · obtain rfl : y = 9 := by omega
                  exact itab_K_14_9_9
            · rcases Nat.lt_or_ge y 12 with gy | gy
              · rcases Nat.lt_or_ge y 11 with gy | gy
                · obtain rfl : y = 10 := by omega
                  exact itab_K_14_9_10
                · obtain rfl : y = 11 := by omega
                  exact itab_K_14_9_11
              · rcases Nat.lt_or_ge y 13 with gy | gy
                · obtain rfl : y = 12 := by omega
                  exact itab_K_14_9_12
                · obtain rfl : y = 13 := by omega
                  exact itab_K_14_9_13
        · obtain rfl : x = 10 := by omega
          rcases Nat.lt_or_ge y 7 with gy | gy
          · rcases Nat.lt_or_ge y 3 with gy | gy
            · rcases Nat.lt_or_ge y 1 with gy | gy
              · obtain rfl : y = 0 := by omega
                exact itab_K_14_10_0
              · rcases Nat.lt_or_ge y 2 with gy | gy
                · obtain rfl : y = 1 := by omega
                  exact itab_K_14_10_1
                · obtain rfl : y = 2 := by omega
                  exact itab_K_14_10_2
            · rcases Nat.lt_or_ge y 5 with gy | gy
              · rcases Nat.lt_or_ge y 4 with gy | gy
                · obtain rfl : y = 3 := by omega
                  exact itab_K_14_10_3
                · obtain rfl : y = 4 := by omega
                  exact itab_K_14_10_4
              · rcases Nat.lt_or_ge y 6 with gy | gy
                · obtain rfl : y = 5 := by omega
                  exact itab_K_14_10_5
                · obtain rfl : y = 6 := by omega
                  exact itab_K_14_10_6
          · rcases Nat.lt_or_ge y 10 with gy | gy
            · rcases Nat.lt_or_ge y 8 with gy | gy
              · obtain rfl : y = 7 := by omega
                exact itab_K_14_10_7
              · rcases Nat.lt_or_ge y 9 with gy | gy
                · obtain rfl : y = 8 := by omega
                  exact itab_K_14_10_8
                · obtain rfl : y = 9 := by omega
                  exact itab_K_14_10_9
            · rcases Nat.lt_or_ge y 12 with gy | gy
              · rcases Nat.lt_or_ge y 11 with gy | gy
                · obtain rfl : y = 10 := by omega
                  exact itab_K_14_10_10
                · obtain rfl : y = 11 := by omega
                  exact itab_K_14_10_11
              · rcases Nat.lt_or_ge y 13 with gy | gy
                · obtain rfl : y = 12 := by omega
                  exact itab_K_14_10_12
                · obtain rfl : y = 13 := by omega
                  exact itab_K_14_10_13
      · rcases Nat.lt_or_ge x 12 with gx | gx
        · obtain rfl : x = 11 := by omega
          rcases Nat.lt_or_ge y 7 with gy | gy
          · rcases Nat.lt_or_ge y 3 with gy | gy
            · rcases Nat.lt_or_ge y 1 with gy | gy
              · obtain rfl : y = 0 := by omega
                exact itab_K_14_11_0
              · rcases Nat.lt_or_ge y 2 with gy | gy
                · obtain rfl : y = 1 := by omega
                  exact itab_K_14_11_1
                · obtain rfl : y = 2 := by omega
                  exact itab_K_14_11_2
            · rcases Nat.lt_or_ge y 5 with gy | gy
              · rcases Nat.lt_or_ge y 4 with gy | gy
                · obtain rfl : y = 3 := by omega
                  exact itab_K_14_11_3
                · obtain rfl : y = 4 := by omega
                  exact itab_K_14_11_4
              · rcases Nat.lt_or_ge y 6 with gy | gy
                · obtain rfl : y = 5 := by omega
                  exact itab_K_14_11_5
                · obtain rfl : y = 6 := by omega
                  exact itab_K_14_11_6
          · rcases Nat.lt_or_ge y 10 with gy | gy
            · rcases Nat.lt_or_ge y 8 with gy | gy
              · obtain rfl : y = 7 := by omega
                exact itab_K_14_11_7
              · rcases Nat.lt_or_ge y 9 with gy | gy
                · obtain rfl : y = 8 := by omega
                  exact itab_K_14_11_8
                · obtain rfl : y = 9 := by omega
                  exact itab_K_14_11_9
            · rcases Nat.lt_or_ge y 12 with gy | gy
              · rcases Nat.lt_or_ge y 11 with gy | gy
                · obtain rfl : y = 10 := by omega
                  exact itab_K_14_11_10
                · obtain rfl : y = 11 := by omega
                  exact itab_K_14_11_11
              · rcases Nat.lt_or_ge y 13 with gy | gy
                · obtain rfl : y = 12 := by omega
                  exact itab_K_14_11_12
                · obtain rfl : y = 13 := by omega
                  exact itab_K_14_11_13
        · obtain rfl : x = 12 := by omega
          rcases Nat.lt_or_ge y 7 with gy | gy
          · rcases Nat.lt_or_ge y 3 with gy | gy
            · rcases Nat.lt_or_ge y 1 with gy | gy
              · obtain rfl : y = 0 := by omega
                exact itab_K_14_12_0
              · rcases Nat.lt_or_ge y 2 with gy | gy
                · obtain rfl : y = 1 := by omega
                  exact itab_K_14_12_1
                · obtain rfl : y = 2 := by omega
                  exact itab_K_14_12_2
            · rcases Nat.lt_or_ge y 5 with gy | gy
              · rcases Nat.lt_or_ge y 4 with gy | gy
                · obtain rfl : y = 3 := by omega
                  exact itab_K_14_12_3
                · obtain rfl : y = 4 := by omega
                  exact itab_K_14_12_4
              · rcases Nat.lt_or_ge y 6 with gy | gy
                · obtain rfl : y = 5 := by omega
                  exact itab_K_14_12_5
                · obtain rfl : y = 6 := by omega
                  exact itab_K_14_12_6
          · rcases Nat.lt_or_ge y 10 with gy | gy
            · rcases Nat.lt_or_ge y 8 with gy | gy
              · obtain rfl : y = 7 := by omega
                exact itab_K_14_12_7
              · rcases Nat.lt_or_ge y 9 with gy | gy
                · obtain rfl : y = 8 := by omega
                  exact itab_K_14_12_8
                · obtain rfl : y = 9 := by omega
                  exact itab_K_14_12_9
            · rcases Nat.lt_or_ge y 12 with gy | gy
              · rcases Nat.lt_or_ge y 11 with gy | gy
                · obtain rfl : y = 10 := by omega
                  exact itab_K_14_12_10
                · obtain rfl : y = 11 := by omega
                  exact itab_K_14_12_11
              · rcases Nat.lt_or_ge y 13 with gy | gy
                · obtain rfl : y = 12 := by omega
                  exact itab_K_14_12_12
                · obtain rfl : y = 13 := by omega
                  exact itab_K_14_12_13
theorem itab_K15 (x y : Nat) (hx : x < 14) (hy : y < 15) : runM 4 [] [.and 0 15 15, .and 1 15 x, .and 2 15 y] 3 [.int .i64 (.var 0), .int .i64 (.var 1), .int .i64 (.var 2)] = true := by
  rcases Nat.lt_or_ge x 7 with gx | gx
  · rcases Nat.lt_or_ge x 3 with gx | gx
    · rcases Nat.lt_or_ge x 1 with gx | gx
      · obtain rfl : x = 0 := by omega
        rcases Nat.lt_or_ge y 7 with gy | gy
        · rcases Nat.lt_or_ge y 3 with gy | gy
          · rcases Nat.lt_or_ge y 1 with gy | gy
            · obtain rfl : y = 0 := by omega
              exact itab_K_15_0_0
            · rcases Nat.lt_or_ge y 2 with gy | gy
              · obtain rfl : y = 1 := by omega
                exact itab_K_15_0_1
              · obtain rfl : y = 2 := by omega
                exact itab_K_15_0_2
          · rcases Nat.lt_or_ge y 5 with gy | gy
            · rcases Nat.lt_or_ge y 4 with gy | gy
              · obtain rfl : y = 3 := by omega
                exact itab_K_15_0_3
              · obtain rfl : y = 4 := by omega
                exact itab_K_15_0_4
            · rcases Nat.lt_or_ge y 6 with gy | gy
              · obtain rfl : y = 5 := by omega
                exact itab_K_15_0_5
              · obtain rfl : y = 6 := by omega
                exact itab_K_15_0_6
        · rcases Nat.lt_or_ge y 11 with gy | gy
          · rcases Nat.lt_or_ge y 9 with gy | gy
            · rcases Nat.lt_or_ge y 8 with gy | gy
              · obtain rfl : y = 7 := by omega
                exact itab_K_15_0_7
              · obtain rfl : y = 8 := by omega
                exact itab_K_15_0_8
            · rcases Nat.lt_or_ge y 10 with gy | gy
              · obtain rfl : y = 9 := by omega
                exact itab_K_15_0_9
              · obtain rfl : y = 10 := by omega
                exact itab_K_15_0_10
          · rcases Nat.lt_or_ge y 13 with gy | gy
            · rcases Nat.lt_or_ge y 12 with gy | gy
              · obtain rfl : y = 11 := by omega
                exact itab_K_15_0_11
              · obtain rfl : y = 12 := by omega
                exact itab_K_15_0_12
            · rcases Nat.lt_or_ge y 14 with gy | gy
              · obtain rfl : y = 13 := by omega
                exact itab_K_15_0_13
              · obtain rfl : y = 14 := by omega
                exact itab_K_15_0_14
      · rcases Nat.lt_or_ge x 2 with gx | gx
        · obtain rfl : x = 1 := by omega
          rcases Nat.lt_or_ge y 7 with gy | gy
          · rcases Nat.lt_or_ge y 3 with gy | gy
            · rcases Nat.lt_or_ge y 1 with gy | gy
              · obtain rfl : y = 0 := by omega
                exact itab_K_15_1_0
              · rcases Nat.lt_or_ge y 2 with gy | gy
                · obtain rfl : y = 1 := by omega
                  exact itab_K_15_1_1
                · obtain rfl : y = 2 := by omega
                  exact itab_K_15_1_2
            · rcases Nat.lt_or_ge y 5 with gy | gy
              · rcases Nat.lt_or_ge y 4 with gy | gy
                · obtain rfl : y = 3 := by omega
                  exact itab_K_15_1_3
                · obtain rfl : y = 4 := by omega
                  exact itab_K_15_1_4
              · rcases Nat.lt_or_ge y 6 with gy | gy
                · obtain rfl : y = 5 := by omega
                  exact itab_K_15_1_5
                · obtain rfl : y = 6 := by omega
                  exact itab_K_15_1_6
          · rcases Nat.lt_or_ge y 11 with gy | gy
            · rcases Nat.lt_or_ge y 9 with gy | gy
              · rcases Nat.lt_or_ge y 8 with gy | gy
                · obtain rfl : y = 7 := by omega
                  exact itab_K_15_1_7
                · obtain rfl : y = 8 := by omega
                  exact itab_K_15_1_8
              · rcases Nat.lt_or_ge y 10 with gy | gy
                · obtain rfl : y = 9 := by omega
                  exact itab_K_15_1_9
                · obtain rfl : y = 10 := by omega
                  exact itab_K_15_1_10
            · rcases Nat.lt_or_ge y 13 with gy | gy
              · rcases Nat.lt_or_ge y 12 with gy | gy
                · obtain rfl : y = 11 := by omega
                  exact itab_K_15_1_11
                · obtain rfl : y = 12 := by omega
                  exact itab_K_15_1_12
              · rcases Nat.lt_or_ge y 14 with gy | gy
                · obtain rfl : y = 13 := by omega
                  exact itab_K_15_1_13
                · obtain rfl : y = 14 := by omega
                  exact itab_K_15_1_14
        · obtain rfl : x = 2 := by omega
          rcases Nat.lt_or_ge y 7 with gy | gy
          · rcases Nat.lt_or_ge y 3 with gy | gy
            · rcases Nat.lt_or_ge y 1 with gy | gy
              · obtain rfl : y = 0 := by omega
                exact itab_K_15_2_0
              · rcases Nat.lt_or_ge y 2 with gy | gy
                · obtain rfl : y = 1 := by omega
                  exact itab_K_15_2_1
                · obtain rfl : y = 2 := by omega
                  exact itab_K_15_2_2
            · rcases Nat.lt_or_ge y 5 with gy | gy
              · rcases Nat.lt_or_ge y 4 with gy | gy
                · obtain rfl : y = 3 := by omega
                  exact itab_K_15_2_3
                · obtain rfl : y = 4 := by omega
                  exact itab_K_15_2_4
              · rcases Nat.lt_or_ge y 6 with gy | gy
                · obtain rfl : y = 5 := by omega
                  exact itab_K_15_2_5
                · obtain rfl : y = 6 := by omega
                  exact itab_K_15_2_6
          · rcases Nat.lt_or_ge y 11 with gy | gy
            · rcases Nat.lt_or_ge y 9 with gy | gy
              · rcases Nat.lt_or_ge y 8 with gy | gy
                · obtain rfl : y = 7 := by omega
                  exact itab_K_15_2_7
                · obtain rfl : y = 8 := by omega
                  exact itab_K_15_2_8
              · rcases Nat.lt_or_ge y 10 with gy | gy
                · obtain rfl : y = 9 := by omega
                  exact itab_K_15_2_9
                · obtain rfl : y = 10 := by omega
                  exact itab_K_15_2_10
            · rcases Nat.lt_or_ge y 13 with gy | gy
              · rcases Nat.lt_or_ge y 12 with gy | gy
                · obtain rfl : y = 11 := by omega
                  exact itab_K_15_2_11
                · obtain rfl : y = 12 := by omega
                  exact itab_K_15_2_12
              · rcases Nat.lt_or_ge y 14 with gy | gy
                · obtain rfl : y = 13 := by omega
                  exact itab_K_15_2_13
                · obtain rfl : y = 14 := by omega
                  exact itab_K_15_2_14
    · rcases Nat.lt_or_ge x 5 with gx | gx
      · rcases Nat.lt_or_ge x 4 with gx | gx
        · obtain rfl : x = 3 := by omega
          rcases Nat.lt_or_ge y 7 with gy | gy
          · rcases Nat.lt_or_ge y 3 with gy | gy
            · rcases Nat.lt_or_ge y 1 with gy | gy
              · obtain rfl : y = 0 := by omega
                exact itab_K_15_3_0
              · rcases Nat.lt_or_ge y 2 with gy | gy
                · obtain rfl : y = 1 := by omega
                  exact itab_K_15_3_1
                · obtain rfl : y = 2 := by omega
                  exact itab_K_15_3_2
            · rcases Nat.lt_or_ge y 5 with gy | gy
              · rcases Nat.lt_or_ge y 4 with gy | gy
                · obtain rfl : y = 3 := by omega
                  exact itab_K_15_3_3
                · obtain rfl : y = 4 := by omega
                  exact itab_K_15_3_4
              · rcases Nat.lt_or_ge y 6 with gy | gy
                · obtain rfl : y = 5 := by omega
                  exact itab_K_15_3_5
                · obtain rfl : y = 6 := by omega
                  exact itab_K_15_3_6
          · rcases Nat.lt_or_ge y 11 with gy | gy
            · rcases Nat.lt_or_ge y 9 with gy | gy
              · rcases Nat.lt_or_ge y 8 with gy | gy
                · obtain rfl : y = 7 := by omega
                  exact itab_K_15_3_7
                · obtain rfl : y = 8 := by omega
                  exact itab_K_15_3_8
              · rcases Nat.lt_or_ge y 10 with gy | gy
                · obtain rfl : y = 9 := by omega
                  exact itab_K_15_3_9
                · obtain rfl : y = 10 := by omega
                  exact itab_K_15_3_10
            · rcases Nat.lt_or_ge y 13 with gy | gy
              · rcases Nat.lt_or_ge y 12 with gy | gy
                · obtain rfl : y = 11 := by omega
                  exact itab_K_15_3_11
                · obtain rfl : y = 12 := by omega
                  exact itab_K_15_3_12
              · rcases Nat.lt_or_ge y 14 with gy | gy
                · obtain rfl : y = 13 := by omega
                  exact itab_K_15_3_13
                · obtain rfl : y = 14 := by omega
                  exact itab_K_15_3_14
        · obtain rfl : x = 4 := by omega
          rcases Nat.lt_or_ge y 7 with gy | gy
          · rcases Nat.lt_or_ge y 3 with gy | gy
            · rcases Nat.lt_or_ge y 1 with gy | gy
              · obtain rfl : y = 0 := by omega
                exact itab_K_15_4_0
              · rcases Nat.lt_or_ge y 2 with gy | gy
                · obtain rfl : y = 1 := by omega
                  exact itab_K_15_4_1
                · obtain rfl : y = 2 := by omega
                  exact itab_K_15_4_2
            · rcases Nat.lt_or_ge y 5 with gy | gy
              · rcases Nat.lt_or_ge y 4 with gy | gy
                · obtain rfl : y = 3 := by omega
                  exact itab_K_15_4_3
                · obtain rfl : y = 4 := by omega
                  exact itab_K_15_4_4
              · rcases Nat.lt_or_ge y 6 with gy | gy
                · obtain rfl : y = 5 := by omega
                  exact itab_K_15_4_5
                · obtain rfl : y = 6 := by omega
                  exact itab_K_15_4_6
          · rcases Nat.lt_or_ge y 11 with gy | gy
            · rcases Nat.lt_or_ge y 9 with gy | gy
              · rcases Nat.lt_or_ge y 8 with gy | gy
                · obtain rfl : y = 7 := by omega
                  exact itab_K_15_4_7
                · obtain rfl : y = 8 := by omega
                  exact itab_K_15_4_8
              · rcases Nat.lt_or_ge y 10 with gy | gy
                · obtain rfl : y = 9 := by omega
                  exact itab_K_15_4_9
                · obtain rfl : y = 10 := by omega
                  exact itab_K_15_4_10
            · rcases Nat.lt_or_ge y 13 with gy | gy
              · rcases Nat.lt_or_ge y 12 with gy | gy
                · obtain rfl : y = 11 := by omega
                  exact itab_K_15_4_11
                · obtain rfl : y = 12 := by omega
                  exact itab_K_15_4_12
              · rcases Nat.lt_or_ge y 14 with gy | gy
                · obtain rfl : y = 13 := by omega
                  exact itab_K_15_4_13
                · obtain rfl : y = 14 := by omega
                  exact itab_K_15_4_14
      · rcases Nat.lt_or_ge x 6 with gx | gx
        · obtain rfl : x = 5 := by omega
          rcases Nat.lt_or_ge y 7 with gy | gy
          · rcases Nat.lt_or_ge y 3 with gy | gy
            · rcases Nat.lt_or_ge y 1 with gy | gy
              · obtain rfl : y = 0 := by omega
                exact itab_K_15_5_0
              · rcases Nat.lt_or_ge y 2 with gy | gy
                · obtain rfl : y = 1 := by omega
                  exact itab_K_15_5_1
                · obtain rfl : y = 2 := by omega
                  exact itab_K_15_5_2
            · rcases Nat.lt_or_ge y 5 with gy | gy
              · rcases Nat.lt_or_ge y 4 with gy | gy
                · obtain rfl : y = 3 := by omega
                  exact itab_K_15_5_3
                · obtain rfl : y = 4 := by omega
                  exact itab_K_15_5_4
              · rcases Nat.lt_or_ge y 6 with gy | gy
                · obtain rfl : y = 5 := by omega
                  exact itab_K_15_5_5
                · obtain rfl : y = 6 := by omega
                  exact itab_K_15_5_6
          · rcases Nat.lt_or_ge y 11 with gy | gy
            · rcases Nat.lt_or_ge y 9 with gy | gy
              · rcases Nat.lt_or_ge y 8 with gy | gy
                · obtain rfl : y = 7 := by omega
                  exact itab_K_15_5_7
                · obtain rfl : y = 8 := by omega
                  exact itab_K_15_5_8
              · rcases Nat.lt_or_ge y 10 with gy | gy
                · obtain rfl : y = 9 := by omega
                  exact itab_K_15_5_9
                · obtain rfl : y = 10 := by omega
                  exact itab_K_15_5_10
            · rcases Nat.lt_or_ge y 13 with gy | gy
              · rcases Nat.lt_or_ge y 12 with gy | gy
                · obtain rfl : y = 11 := by omega
                  exact itab_K_15_5_11
                · obtain rfl : y = 12 := by omega
                  exact itab_K_15_5_12
              · rcases Nat.lt_or_ge y 14 with gy | gy
                · obtain rfl : y = 13 := by omega
                  exact itab_K_15_5_13
                · obtain rfl : y = 14 := by omega
                  exact itab_K_15_5_14
        · obtain rfl : x = 6 := by omega
          rcases Nat.lt_or_ge y 7 with gy | gy
          · rcases Nat.lt_or_ge y 3 with gy | gy
            · rcases Nat.lt_or_ge y 1 with gy | gy
              · obtain rfl : y = 0 := by omega
                exact itab_K_15_6_0
              · rcases Nat.lt_or_ge y 2 with gy | gy
                · obtain rfl : y = 1 := by omega
                  exact itab_K_15_6_1
                · obtain rfl : y = 2 := by omega
                  exact itab_K_15_6_2
            · rcases Nat.lt_or_ge y 5 with gy | gy
              · rcases Nat.lt_or_ge y 4 with gy | gy
                · obtain rfl : y = 3 := by omega
                  exact itab_K_15_6_3
                · obtain rfl : y = 4 := by omega
                  exact itab_K_15_6_4
              · rcases Nat.lt_or_ge y 6 with gy | gy
                · obtain rfl : y = 5 := by omega
                  exact itab_K_15_6_5
                · obtain rfl : y = 6 := by omega
                  exact itab_K_15_6_6
          · rcases Nat.lt_or_ge y 11 with gy | gy
            · rcases Nat.lt_or_ge y 9 with gy | gy
              · rcases Nat.lt_or_ge y 8 with gy | gy
                · obtain rfl : y = 7 := by omega
                  exact itab_K_15_6_7
                · obtain rfl : y = 8 := by omega
                  exact itab_K_15_6_8
              · rcases Nat.lt_or_ge y 10 with gy | gy
                · obtain rfl : y = 9 := by omega
                  exact itab_K_15_6_9
                · obtain rfl : y = 10 := by omega
                  exact itab_K_15_6_10
            · rcases Nat.lt_or_ge y 13 with gy | gy
              · rcases Nat.lt_or_ge y 12 with gy | gy
                · obtain rfl : y = 11 := by omega
                  exact itab_K_15_6_11
                · obtain rfl : y = 12 := by omega
                  exact itab_K_15_6_12
              · rcases Nat.lt_or_ge y 14 with gy | gy
                · obtain rfl : y = 13 := by omega
                  exact itab_K_15_6_13
                · obtain rfl : y = 14 := by omega
                  exact itab_K_15_6_14
  · rcases Nat.lt_or_ge x 10 with gx | gx
    · rcases Nat.lt_or_ge x 8 with gx | gx
      · obtain rfl : x = 7 := by omega
        rcases Nat.lt_or_ge y 7 with gy | gy
        · rcases Nat.lt_or_ge y 3 with gy | gy
          · rcases Nat.lt_or_ge y 1 with gy | gy
            · obtain rfl : y = 0 := by omega
              exact itab_K_15_7_0
            · rcases Nat.lt_or_ge y 2 with gy | gy
              · obtain rfl : y = 1 := by omega
                exact itab_K_15_7_1
              · obtain rfl : y = 2 := by omega
                exact itab_K_15_7_2
          · rcases Nat.lt_or_ge y 5 with gy | gy
            · rcases Nat.lt_or_ge y 4 with gy | gy
              · obtain rfl : y = 3 := by omega
                exact itab_K_15_7_3
              · obtain rfl : y = 4 := by omega
                exact itab_K_15_7_4
            · rcases Nat.lt_or_ge y 6 with gy | gy
              · obtain rfl : y = 5 := by omega
                exact itab_K_15_7_5
              · obtain rfl : y = 6 := by omega
                exact itab_K_15_7_6
        · rcases Nat.lt_or_ge y 11 with gy | gy
          · rcases Nat.lt_or_ge y 9 with gy | gy
            · rcases Nat.lt_or_ge y 8 with gy | gy
              · obtain rfl : y = 7 := by omega
                exact itab_K_15_7_7
              · obtain rfl : y = 8 := by omega
                exact itab_K_15_7_8
            · rcases Nat.lt_or_ge y 10 with gy | gy
              · obtain rfl : y = 9 := by omega
                exact itab_K_15_7_9
              · obtain rfl : y = 10 := by omega
                exact itab_K_15_7_10
          · rcases Nat.lt_or_ge y 13 with gy | gy
            · rcases Nat.lt_or_ge y 12 with gy | gy
              · obtain rfl : y = 11 := by omega
                exact itab_K_15_7_11
              · obtain rfl : y = 12 := by omega
                exact itab_K_15_7_12
            · rcases Nat.lt_or_ge y 14 with gy | gy
              · obtain rfl : y = 13 := by omega
                exact itab_K_15_7_13
              · obtain rfl : y = 14 := by omega
                exact itab_K_15_7_14
      · rcases Nat.lt_or_ge x 9 with gx | gx
        · obtain rfl : x = 8 := by omega
          rcases Nat.lt_or_ge y 7 with gy | gy
          · rcases Nat.lt_or_ge y 3 with gy | gy
            · rcases Nat.lt_or_ge y 1 with gy | gy
              · obtain rfl : y = 0 := by omega
                exact itab_K_15_8_0
              · rcases Nat.lt_or_ge y 2 with gy | gy
                · obtain rfl : y = 1 := by omega
                  exact itab_K_15_8_1
                · obtain rfl : y = 2 := by omega
                  exact itab_K_15_8_2
            · rcases Nat.lt_or_ge y 5 with gy | gy
              · rcases Nat.lt_or_ge y 4 with gy | gy
                · obtain rfl : y = 3 := by omega
                  exact itab_K_15_8_3
                · obtain rfl : y = 4 := by omega
                  exact itab_K_15_8_4
              · rcases Nat.lt_or_ge y 6 with gy | gy
                · obtain rfl : y = 5 := by omega
                  exact itab_K_15_8_5
                · obtain rfl : y = 6 := by omega
                  exact itab_K_15_8_6
          · rcases Nat.lt_or_ge y 11 with gy | gy
            · rcases Nat.lt_or_ge y 9 with gy | gy
              · rcases Nat.lt_or_ge y 8 with gy | gy
                · obtain rfl : y = 7 := by omega
                  exact itab_K_15_8_7
                · obtain rfl : y = 8 := by omega
                  exact itab_K_15_8_8
              · rcases Nat.lt_or_ge y 10 with gy | gy
                · obtain rfl : y = 9 := by omega
                  exact itab_K_15_8_9
                · obtain rfl : y = 10 := by omega
                  exact itab_K_15_8_10
            · rcases Nat.lt_or_ge y 13 with gy | gy
              · rcases Nat.lt_or_ge y 12 with gy | gy
                · obtain rfl : y = 11 := by omega
                  exact itab_K_15_8_11
                · obtain rfl : y = 12 := by omega
                  exact itab_K_15_8_12
              · rcases Nat.lt_or_ge y 14 with gy | gy
                · obtain rfl : y = 13 := by omega
                  exact itab_K_15_8_13
                · obtain rfl : y = 14 := by omega
                  exact itab_K_15_8_14
        · obtain rfl : x = 9 := by omega
          rcases Nat.lt_or_ge y 7 with gy | gy
          · rcases Nat.lt_or_ge y 3 with gy | gy
            · rcases Nat.lt_or_ge y 1 with gy | gy
              · obtain rfl : y = 0 := by omega
                exact itab_K_15_9_0
              · rcases Nat.lt_or_ge y 2 with gy | gy
                · obtain rfl : y = 1 := by omega
                  exact itab_K_15_9_1
                · obtain rfl : y = 2 := by omega
                  exact itab_K_15_9_2
            · rcases Nat.lt_or_ge y 5 with gy | gy
              · rcases Nat.lt_or_ge y 4 with gy | gy
                · obtain rfl : y = 3 := by omega
                  exact itab_K_15_9_3
                · obtain rfl : y = 4 := by omega
                  exact itab_K_15_9_4
              · rcases Nat.lt_or_ge y 6 with gy | gy
                · obtain rfl : y = 5 := by omega
                  exact itab_K_15_9_5
                · obtain rfl : y = 6 := by omega
                  exact itab_K_15_9_6
          · rcases Nat.lt_or_ge y 11 with gy | gy
            · rcases Nat.lt_or_ge y 9 with gy | gy
              · rcases Nat.lt_or_ge y 8 with gy | gy
                · obtain rfl : y = 7 := by omega
                  exact itab_K_15_9_7
                · obtain rfl : y = 8 := by omega
                  exact itab_K_15_9_8
              · rcases Nat.lt_or_ge y 10 with gy | gy
                · obtain rfl : y = 9 := by omega
                  exact itab_K_15_9_9
                · obtain rfl : y = 10 := by omega
                  exact itab_K_15_9_10
            · rcases Nat.lt_or_ge y 13 with gy | gy
              · rcases Nat.lt_or_ge y 12 with gy | gy
                · obtain rfl : y = 11 := by omega
                  exact itab_K_15_9_11
                · obtain rfl : y = 12 := by omega
                  exact itab_K_15_9_12
              · rcases Nat.lt_or_ge y 14 with gy | gy
                · obtain rfl : y = 13 := by omega
                  exact itab_K_15_9_13
                · obtain rfl : y = 14 := by omega
                  exact itab_K_15_9_14
    · rcases Nat.lt_or_ge x 12 with gx | gx
      · rcases Nat.lt_or_ge x 11 with gx | gx
        · obtain rfl : x = 10 := by omega
          rcases Nat.lt_or_ge y 7 with gy | gy
          · rcases Nat.lt_or_ge y 3 with gy | gy
            · rcases Nat.lt_or_ge y 1 with gy | gy
              · obtain rfl : y = 0 := by omega
                exact itab_K_15_10_0
              · rcases Nat.lt_or_ge y 2 with gy | gy
                · obtain rfl : y = 1 := by omega
                  exact itab_K_15_10_1
                · obtain rfl : y = 2 := by omega
                  exact itab_K_15_10_2
            · rcases Nat.lt_or_ge y 5 with gy | gy
              · rcases Nat.lt_or_ge y 4 with gy | gy
                · obtain rfl : y = 3 := by omega
                  exact itab_K_15_10_3
                · obtain rfl : y = 4 := by omega
                  exact itab_K_15_10_4
              · rcases Nat.lt_or_ge y 6 with gy | gy
                · obtain rfl : y = 5 := by omega
                  exact itab_K_15_10_5
                · obtain rfl : y = 6 := by omega
                  exact itab_K_15_10_6
          · rcases Nat.lt_or_ge y 11 with gy | gy
            · rcases Nat.lt_or_ge y 9 with gy | gy
              · rcases Nat.lt_or_ge y 8 with gy | gy
                · obtain rfl : y = 7 := by omega
                  exact itab_K_15_10_7
                · obtain rfl : y = 8 := by omega
                  exact itab_K_15_10_8
              · rcases Nat.lt_or_ge y 10 with gy | gy
                · obtain rfl : y = 9 := by omega
                  exact itab_K_15_10_9
                · obtain rfl : y = 10 := by omega
                  exact itab_K_15_10_10
            · rcases Nat.lt_or_ge y 13 with gy | gy
              · rcases Nat.lt_or_ge y 12 with gy | gy
                · obtain rfl : y = 11 := by omega
                  exact itab_K_15_10_11
                · obtain rfl : y = 12 := by omega
                  exact itab_K_15_10_12
              · rcases Nat.lt_or_ge y 14 with gy | gy
                · obtain rfl : y = 13 := by omega
                  exact itab_K_15_10_13
                · obtain rfl : y = 14 := by omega
                  exact itab_K_15_10_14
        · obtain rfl : x = 11 := by omega
          rcases Nat.lt_or_ge y 7 with gy | gy
          · rcases Nat.lt_or_ge y 3 with gy | gy
            · rcases Nat.lt_or_ge y 1 with gy | gy
              · obtain rfl : y = 0 := by omega
                exact itab_K_15_11_0
              · rcases Nat.lt_or_ge y 2 with gy | gy
                · obtain rfl : y = 1 := by omega
                  exact itab_K_15_11_1
                · obtain rfl : y = 2 := by omega
                  exact itab_K_15_11_2
            · rcases Nat.lt_or_ge y 5 with gy | gy
              · rcases Nat.lt_or_ge y 4 with gy | gy
                · obtain rfl : y = 3 := by omega
                  exact itab_K_15_11_3
                · obtain rfl : y = 4 := by omega
                  exact itab_K_15_11_4
              · rcases Nat.lt_or_ge y 6 with gy | gy
                · obtain rfl : y = 5 := by omega
                  exact itab_K_15_11_5
                · obtain rfl : y = 6 := by omega
                  exact itab_K_15_11_6
          · rcases Nat.lt_or_ge y 11 with gy | gy
            · rcases Nat.lt_or_ge y 9 with gy | gy
              · rcases Nat.lt_or_ge y 8 with gy | gy
                · obtain rfl : y = 7 := by omega
                  exact itab_K_15_11_7
                · obtain rfl : y = 8 := by omega
                  exact itab_K_15_11_8
              · rcases Nat.lt_or_ge y 10 with gy | gy
                · obtain rfl : y = 9 := by omega
                  exact itab_K_15_11_9
                · obtain rfl : y = 10 := by omega
                  exact itab_K_15_11_10
            · rcases Nat.lt_or_ge y 13 with gy | gy
              · rcases Nat.lt_or_ge y 12 with gy | gy
                · obtain rfl : y = 11 := by omega
                  exact itab_K_15_11_11
                · obtain rfl : y = 12 := by omega
                  exact itab_K_15_11_12
              · rcases Nat.lt_or_ge y 14 with gy | gy
                · obtain rfl : y = 13 := by omega
                  exact itab_K_15_11_13
                · obtain rfl : y = 14 := by omega
                  exact itab_K_15_11_14
      · rcases Nat.lt_or_ge x 13 with gx | gx
        · obtain rfl : x = 12 := by omega
          rcases Nat.lt_or_ge y 7 with gy | gy
          · rcases Nat.lt_or_ge y 3 with gy | gy
            · rcases Nat.lt_or_ge y 1 with gy | gy
              · obtain rfl : y = 0 := by omega
                exact itab_K_15_12_0
              · rcases Nat.lt_or_ge y 2 with gy | gy
                · obtain rfl : y = 1 := by omega
                  exact itab_K_15_12_1
                · obtain rfl : y = 2 := by omega
                  exact itab_K_15_12_2
            · rcases Nat.lt_or_ge y 5 with gy | gy
              · rcases Nat.lt_or_ge y 4 with gy | gy
                · obtain rfl : y = 3 := by omega
                  exact itab_K_15_12_3
                · obtain rfl : y = 4 := by omega
                  exact itab_K_15_12_4
              · rcases Nat.lt_or_ge y 6 with gy | gy
                · obtain rfl : y = 5 := by omega
                  exact itab_K_15_12_5
                · obtain rfl : y = 6 := by omega
                  exact itab_K_15_12_6
          · rcases Nat.lt_or_ge y 11 with gy | gy
            · rcases Nat.lt_or_ge y 9 with gy | gy
              · rcases Nat.lt_or_ge y 8 with gy | gy
                · obtain rfl : y = 7 := by omega
                  exact itab_K_15_12_7
                · obtain rfl : y = 8 := by omega
                  exact itab_K_15_12_8
              · rcases Nat.lt_or_ge y 10 with gy | gy
                · obtain rfl : y = 9 := by omega
                  exact itab_K_15_12_9
                · obtain rfl : y = 10 := by omega
                  exact itab_K_15_12_10
            · rcases Nat.lt_or_ge y 13 with gy | gy
              · rcases Nat.lt_or_ge y 12 with gy | gy
                · obtain rfl : y = 11 := by omega
                  exact itab_K_15_12_11
                · obtain rfl : y = 12 := by omega
                  exact itab_K_15_12_12
              · rcases Nat.lt_or_ge y 14 with gy | gy
                · obtain rfl : y = 13 := by omega
                  exact itab_K_15_12_13
                · obtain rfl : y = 14 := by omega
                  exact itab_K_15_12_14
        · obtain rfl : x = 13 := by omega
          rcases Nat.lt_or_ge y 7 with gy | gy
          · rcases Nat.lt_or_ge y 3 with gy | gy
            · rcases Nat.lt_or_ge y 1 with gy | gy
              · obtain rfl : y = 0 := by omega
                exact itab_K_15_13_0
              · rcases Nat.lt_or_ge y 2 with gy | gy
                · obtain rfl : y = 1 := by omega
                  exact itab_K_15_13_1
                · obtain rfl : y = 2 := by omega
                  exact itab_K_15_13_2
            · rcases Nat.lt_or_ge y 5 with gy | gy
              · rcases Nat.lt_or_ge y 4 with gy | gy
                · obtain rfl : y = 3 := by omega
                  exact itab_K_15_13_3
                · obtain rfl : y = 4 := by omega
                  exact itab_K_15_13_4
              · rcases Nat.lt_or_ge y 6 with gy | gy
                · obtain rfl : y = 5 := by omega
                  exact itab_K_15_13_5
                · obtain rfl : y = 6 := by omega
                  exact itab_K_15_13_6
          · rcases Nat.lt_or_ge y 11 with gy | gy
            · rcases Nat.lt_or_ge y 9 with gy | gy
              · rcases Nat.lt_or_ge y 8 with gy | gy
                · obtain rfl : y = 7 := by omega
                  exact itab_K_15_13_7
                · obtain rfl : y = 8 := by omega
                  exact itab_K_15_13_8
              · rcases Nat.lt_or_ge y 10 with gy | gy
                · obtain rfl : y = 9 := by omega
                  exact itab_K_15_13_9
                · obtain rfl : y = 10 := by omega
                  exact itab_K_15_13_10
            · rcases Nat.lt_or_ge y 13 with gy | gy
              · rcases Nat.lt_or_ge y 12 with gy | gy
                · obtain rfl : y = 11 := by omega
                  exact itab_K_15_13_11
                · obtain rfl : y = 12 := by omega
                  exact itab_K_15_13_12
              · rcases Nat.lt_or_ge y 14 with gy | gy
                · obtain rfl : y = 13 := by omega
                  exact itab_K_15_13_13
                · obtain rfl : y = 14 := by omega
                  exact itab_K_15_13_14
theorem itab_K (s x y : Nat) (hs : s < 16) (hx : x + 2 ≤ s) (hy : y + 1 ≤ s) : runM 4 [] [.and 0 15 s, .and 1 15 x, .and 2 15 y] 3 [.int .i64 (.var 0), .int .i64 (.var 1), .int .i64 (.var 2)] = true := by
  rcases Nat.lt_or_ge s 9 with gs | gs
  · rcases Nat.lt_or_ge s 5 with gs | gs
    · rcases Nat.lt_or_ge s 3 with gs | gs
      · obtain rfl : s = 2 := by omega
        exact itab_K2 x y (by omega) (by omega)
      · rcases Nat.lt_or_ge s 4 with gs | gs
        · obtain rfl : s = 3 := by omega
          exact itab_K3 x y (by omega) (by omega)
        · obtain rfl : s = 4 := by omega
          exact itab_K4 x y (by omega) (by omega)
    · rcases Nat.lt_or_ge s 7 with gs | gs
      · rcases Nat.lt_or_ge s 6 with gs | gs
        · obtain rfl : s = 5 := by omega
          exact itab_K5 x y (by omega) (by omega)
        · obtain rfl : s = 6 := by omega
          exact itab_K6 x y (by omega) (by omega)
      · rcases Nat.lt_or_ge s 8 with gs | gs
        · obtain rfl : s = 7 := by omega
          exact itab_K7 x y (by omega) (by omega)
        · obtain rfl : s = 8 := by omega
          exact itab_K8 x y (by omega) (by omega)
  · rcases Nat.lt_or_ge s 12 with gs | gs
    · rcases Nat.lt_or_ge s 10 with gs | gs
      · obtain rfl : s = 9 := by omega
        exact itab_K9 x y (by omega) (by omega)
      · rcases Nat.lt_or_ge s 11 with gs | gs
        · obtain rfl : s = 10 := by omega
          exact itab_K10 x y (by omega) (by omega)
        · obtain rfl : s = 11 := by omega
          exact itab_K11 x y (by omega) (by omega)
    · rcases Nat.lt_or_ge s 14 with gs | gs
      · rcases Nat.lt_or_ge s 13 with gs | gs
        · obtain rfl : s = 12 := by omega
          exact itab_K12 x y (by omega) (by omega)
        · obtain rfl : s = 13 := by omega
          exact itab_K13 x y (by omega) (by omega)
      · rcases Nat.lt_or_ge s 15 with gs | gs
        · obtain rfl : s = 14 := by omega
          exact itab_K14 x y (by omega) (by omega)
        · obtain rfl : s = 15 := by omega
          exact itab_K15 x y (by omega) (by omega)
theorem iv_of {ρ : Nat → Int} {i m lo hi x : Nat} (f : binVal .and .i64 (ρ i) (m : Int) = (x : Int)) (h1 : lo ≤ x) (h2 : x ≤ hi) : (IV.mk i m lo hi).OK ρ := by
  show (lo : Int) ≤ binVal .and .i64 (ρ i) (m : Int) ∧ binVal .and .i64 (ρ i) (m : Int) ≤ (hi : Int)
  rw [f]; omega
theorem itab_any (a b c : Int) (w : World) : Calls Tryz.prog 3 #[.int .i64 a, .int .i64 b, .int .i64 c] w fun e w' => e = .returned (.bool true) ∧ Go.RowKit.Below w.heap.size w w' := by
  obtain ⟨s, hs, fs⟩ := mask_and a 15 (by decide)
  obtain ⟨x, hx, fx⟩ := mask_and b 15 (by decide)
  obtain ⟨y, hy, fy⟩ := mask_and c 15 (by decide)
  have ks : (MK.and 0 15 s).OK (rhoL [a, b, c]) := fs
  have kx : (MK.and 1 15 x).OK (rhoL [a, b, c]) := fx
  have ky : (MK.and 2 15 y).OK (rhoL [a, b, c]) := fy
  have vr : VRs (fun _ => none) (rhoL [a, b, c]) [.int .i64 (.var 0), .int .i64 (.var 1), .int .i64 (.var 2)] [.int .i64 a, .int .i64 b, .int .i64 c] := .cons (.int rfl) (.cons (.int rfl) (.cons (.int rfl) .nil))
  by_cases h1 : s < x + 2 ∨ s < y + 1
  · obtain ⟨l1, u1, l2, u2, g1, g2, g3, g4, hr⟩ := itab_N s x y (by omega) hx hy h1
    exact runM_calls awake_run (ρ := rhoL [a, b, c]) (ivs_cons (c := ⟨1, 15, l1, u1⟩) (iv_of kx g1 g2) (ivs_cons (c := ⟨2, 15, l2, u2⟩) (iv_of ky g3 g4) ivs_nil)) (all_cons ks all_nil) (by decide) hr vr w
  · exact runM_calls awake_run (ρ := rhoL [a, b, c]) ivs_nil (all_cons ks (all_cons kx (all_cons ky all_nil))) (by decide) (itab_K s x y (by omega) (by omega) (by omega)) vr w
end Go.Proofs.YtbehooekcpfgcaaGreatDoor
