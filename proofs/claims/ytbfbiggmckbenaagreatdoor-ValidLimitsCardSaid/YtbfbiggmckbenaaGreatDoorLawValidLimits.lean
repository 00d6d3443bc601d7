/-
  ValidLimits: what a call of it comes to.
-/
import Derived.Test.YtbfbiggmckbenaaGreatDoorLawValidLimitsC0
import Derived.Test.YtbfbiggmckbenaaGreatDoorLawValidLimitsC1
import Derived.Test.YtbfbiggmckbenaaGreatDoorLawValidLimitsC2
import Derived.Test.YtbfbiggmckbenaaGreatDoorLawValidLimitsC3
namespace Go.Proofs.YtbfbiggmckbenaaGreatDoor
open Go Vx

theorem limits_any (a b : Int) (t : Bool) (w : World) : Calls Tryz.prog 3 #[.int .i64 a, .int .i64 b, .bool t] w fun e w' => e = .returned (.bool true) ∧ Go.RowKit.Below w.heap.size w w' := by
  obtain ⟨p, hp, fp⟩ := mask_and a 131071 (by decide)
  obtain ⟨q, hq, fq⟩ := mask_and b 131071 (by decide)
  have hA : (0 ≤ p ∧ p ≤ 127) ∨ (128 ≤ p ∧ p ≤ 1024) ∨ (1025 ≤ p ∧ p ≤ 16383) ∨ (16384 ≤ p ∧ p ≤ 65535) ∨ (65536 ≤ p ∧ p ≤ 65536) ∨ (65537 ≤ p ∧ p ≤ 65663) ∨ (65664 ≤ p ∧ p ≤ 81919) ∨ (81920 ≤ p ∧ p ≤ 131071) := by omega
  have hB : (0 ≤ q ∧ q ≤ 127) ∨ (128 ≤ q ∧ q ≤ 16383) ∨ (16384 ≤ q ∧ q ≤ 65536) ∨ (65537 ≤ q ∧ q ≤ 131071) := by omega
  rcases hA with ⟨h1, h2⟩ | ⟨h1, h2⟩ | ⟨h1, h2⟩ | ⟨h1, h2⟩ | ⟨h1, h2⟩ | ⟨h1, h2⟩ | ⟨h1, h2⟩ | ⟨h1, h2⟩
  · rcases hB with ⟨h3, h4⟩ | ⟨h3, h4⟩ | ⟨h3, h4⟩ | ⟨h3, h4⟩
    · by_cases hle : p ≤ q
      · cases t
        · exact lim_calls fp fq lim_0_0_true_false h1 h2 h3 h4 (decide_eq_true hle) w
        · exact lim_calls fp fq lim_0_0_true_true h1 h2 h3 h4 (decide_eq_true hle) w
      · cases t
        · exact lim_calls fp fq lim_0_0_false_false h1 h2 h3 h4 (decide_eq_false hle) w
        · exact lim_calls fp fq lim_0_0_false_true h1 h2 h3 h4 (decide_eq_false hle) w
    · by_cases hle : p ≤ q
      · cases t
        · exact lim_calls fp fq lim_0_1_true_false h1 h2 h3 h4 (decide_eq_true hle) w
        · exact lim_calls fp fq lim_0_1_true_true h1 h2 h3 h4 (decide_eq_true hle) w
      · omega
    · by_cases hle : p ≤ q
      · cases t
        · exact lim_calls fp fq lim_0_2_true_false h1 h2 h3 h4 (decide_eq_true hle) w
        · exact lim_calls fp fq lim_0_2_true_true h1 h2 h3 h4 (decide_eq_true hle) w
      · omega
    · by_cases hle : p ≤ q
      · cases t
        · exact lim_calls fp fq lim_0_3_true_false h1 h2 h3 h4 (decide_eq_true hle) w
        · exact lim_calls fp fq lim_0_3_true_true h1 h2 h3 h4 (decide_eq_true hle) w
      · omega
  · rcases hB with ⟨h3, h4⟩ | ⟨h3, h4⟩ | ⟨h3, h4⟩ | ⟨h3, h4⟩
    · by_cases hle : p ≤ q
      · omega
      · cases t
        · exact lim_calls fp fq lim_1_0_false_false h1 h2 h3 h4 (decide_eq_false hle) w
        · exact lim_calls fp fq lim_1_0_false_true h1 h2 h3 h4 (decide_eq_false hle) w
    · by_cases hle : p ≤ q
      · cases t
        · exact lim_calls fp fq lim_1_1_true_false h1 h2 h3 h4 (decide_eq_true hle) w
        · exact lim_calls fp fq lim_1_1_true_true h1 h2 h3 h4 (decide_eq_true hle) w
      · cases t
        · exact lim_calls fp fq lim_1_1_false_false h1 h2 h3 h4 (decide_eq_false hle) w
        · exact lim_calls fp fq lim_1_1_false_true h1 h2 h3 h4 (decide_eq_false hle) w
    · by_cases hle : p ≤ q
      · cases t
        · exact lim_calls fp fq lim_1_2_true_false h1 h2 h3 h4 (decide_eq_true hle) w
        · exact lim_calls fp fq lim_1_2_true_true h1 h2 h3 h4 (decide_eq_true hle) w
      · omega
    · by_cases hle : p ≤ q
      · cases t
        · exact lim_calls fp fq lim_1_3_true_false h1 h2 h3 h4 (decide_eq_true hle) w
        · exact lim_calls fp fq lim_1_3_true_true h1 h2 h3 h4 (decide_eq_true hle) w
      · omega
  · rcases hB with ⟨h3, h4⟩ | ⟨h3, h4⟩ | ⟨h3, h4⟩ | ⟨h3, h4⟩
    · by_cases hle : p ≤ q
      · omega
      · cases t
        · exact lim_calls fp fq lim_2_0_false_false h1 h2 h3 h4 (decide_eq_false hle) w
        · exact lim_calls fp fq lim_2_0_false_true h1 h2 h3 h4 (decide_eq_false hle) w
    · by_cases hle : p ≤ q
      · cases t
        · exact lim_calls fp fq lim_2_1_true_false h1 h2 h3 h4 (decide_eq_true hle) w
        · exact lim_calls fp fq lim_2_1_true_true h1 h2 h3 h4 (decide_eq_true hle) w
      · cases t
        · exact lim_calls fp fq lim_2_1_false_false h1 h2 h3 h4 (decide_eq_false hle) w
        · exact lim_calls fp fq lim_2_1_false_true h1 h2 h3 h4 (decide_eq_false hle) w
    · by_cases hle : p ≤ q
      · cases t
        · exact lim_calls fp fq lim_2_2_true_false h1 h2 h3 h4 (decide_eq_true hle) w
        · exact lim_calls fp fq lim_2_2_true_true h1 h2 h3 h4 (decide_eq_true hle) w
      · omega
    · by_cases hle : p ≤ q
      · cases t
        · exact lim_calls fp fq lim_2_3_true_false h1 h2 h3 h4 (decide_eq_true hle) w
        · exact lim_calls fp fq lim_2_3_true_true h1 h2 h3 h4 (decide_eq_true hle) w
      · omega
  · rcases hB with ⟨h3, h4⟩ | ⟨h3, h4⟩ | ⟨h3, h4⟩ | ⟨h3, h4⟩
    · by_cases hle : p ≤ q
      · omega
      · cases t
        · exact lim_calls fp fq lim_3_0_false_false h1 h2 h3 h4 (decide_eq_false hle) w
        · exact lim_calls fp fq lim_3_0_false_true h1 h2 h3 h4 (decide_eq_false hle) w
    · by_cases hle : p ≤ q
      · omega
      · cases t
        · exact lim_calls fp fq lim_3_1_false_false h1 h2 h3 h4 (decide_eq_false hle) w
        · exact lim_calls fp fq lim_3_1_false_true h1 h2 h3 h4 (decide_eq_false hle) w
    · by_cases hle : p ≤ q
      · cases t
        · exact lim_calls fp fq lim_3_2_true_false h1 h2 h3 h4 (decide_eq_true hle) w
        · exact lim_calls fp fq lim_3_2_true_true h1 h2 h3 h4 (decide_eq_true hle) w
      · cases t
        · exact lim_calls fp fq lim_3_2_false_false h1 h2 h3 h4 (decide_eq_false hle) w
        · exact lim_calls fp fq lim_3_2_false_true h1 h2 h3 h4 (decide_eq_false hle) w
    · by_cases hle : p ≤ q
      · cases t
        · exact lim_calls fp fq lim_3_3_true_false h1 h2 h3 h4 (decide_eq_true hle) w
        · exact lim_calls fp fq lim_3_3_true_true h1 h2 h3 h4 (decide_eq_true hle) w
      · omega
  · rcases hB with ⟨h3, h4⟩ | ⟨h3, h4⟩ | ⟨h3, h4⟩ | ⟨h3, h4⟩
    · by_cases hle : p ≤ q
      · omega
      · cases t
        · exact lim_calls fp fq lim_4_0_false_false h1 h2 h3 h4 (decide_eq_false hle) w
        · exact lim_calls fp fq lim_4_0_false_true h1 h2 h3 h4 (decide_eq_false hle) w
    · by_cases hle : p ≤ q
      · omega
      · cases t
        · exact lim_calls fp fq lim_4_1_false_false h1 h2 h3 h4 (decide_eq_false hle) w
        · exact lim_calls fp fq lim_4_1_false_true h1 h2 h3 h4 (decide_eq_false hle) w
    · by_cases hle : p ≤ q
      · cases t
        · exact lim_calls fp fq lim_4_2_true_false h1 h2 h3 h4 (decide_eq_true hle) w
        · exact lim_calls fp fq lim_4_2_true_true h1 h2 h3 h4 (decide_eq_true hle) w
      · cases t
        · exact lim_calls fp fq lim_4_2_false_false h1 h2 h3 h4 (decide_eq_false hle) w
        · exact lim_calls fp fq lim_4_2_false_true h1 h2 h3 h4 (decide_eq_false hle) w
    · by_cases hle : p ≤ q
      · cases t
        · exact lim_calls fp fq lim_4_3_true_false h1 h2 h3 h4 (decide_eq_true hle) w
        · exact lim_calls fp fq lim_4_3_true_true h1 h2 h3 h4 (decide_eq_true hle) w
      · omega
  · rcases hB with ⟨h3, h4⟩ | ⟨h3, h4⟩ | ⟨h3, h4⟩ | ⟨h3, h4⟩
    · by_cases hle : p ≤ q
      · omega
      · cases t
        · exact lim_calls fp fq lim_5_0_false_false h1 h2 h3 h4 (decide_eq_false hle) w
        · exact lim_calls fp fq lim_5_0_false_true h1 h2 h3 h4 (decide_eq_false hle) w
    · by_cases hle : p ≤ q
      · omega
      · cases t
        · exact lim_calls fp fq lim_5_1_false_false h1 h2 h3 h4 (decide_eq_false hle) w
        · exact lim_calls fp fq lim_5_1_false_true h1 h2 h3 h4 (decide_eq_false hle) w
    · by_cases hle : p ≤ q
      · omega
      · cases t
        · exact lim_calls fp fq lim_5_2_false_false h1 h2 h3 h4 (decide_eq_false hle) w
        · exact lim_calls fp fq lim_5_2_false_true h1 h2 h3 h4 (decide_eq_false hle) w
    · by_cases hle : p ≤ q
      · cases t
        · exact lim_calls fp fq lim_5_3_true_false h1 h2 h3 h4 (decide_eq_true hle) w
        · exact lim_calls fp fq lim_5_3_true_true h1 h2 h3 h4 (decide_eq_true hle) w
      · cases t
        · exact lim_calls fp fq lim_5_3_false_false h1 h2 h3 h4 (decide_eq_false hle) w
        · exact lim_calls fp fq lim_5_3_false_true h1 h2 h3 h4 (decide_eq_false hle) w
  · rcases hB with ⟨h3, h4⟩ | ⟨h3, h4⟩ | ⟨h3, h4⟩ | ⟨h3, h4⟩
    · by_cases hle : p ≤ q
      · omega
      · cases t
        · exact lim_calls fp fq lim_6_0_false_false h1 h2 h3 h4 (decide_eq_false hle) w
        · exact lim_calls fp fq lim_6_0_false_true h1 h2 h3 h4 (decide_eq_false hle) w
    · by_cases hle : p ≤ q
      · omega
      · cases t
        · exact lim_calls fp fq lim_6_1_false_false h1 h2 h3 h4 (decide_eq_false hle) w
        · exact lim_calls fp fq lim_6_1_false_true h1 h2 h3 h4 (decide_eq_false hle) w
    · by_cases hle : p ≤ q
      · omega
      · cases t
        · exact lim_calls fp fq lim_6_2_false_false h1 h2 h3 h4 (decide_eq_false hle) w
        · exact lim_calls fp fq lim_6_2_false_true h1 h2 h3 h4 (decide_eq_false hle) w
    · by_cases hle : p ≤ q
      · cases t
        · exact lim_calls fp fq lim_6_3_true_false h1 h2 h3 h4 (decide_eq_true hle) w
        · exact lim_calls fp fq lim_6_3_true_true h1 h2 h3 h4 (decide_eq_true hle) w
      · cases t
        · exact lim_calls fp fq lim_6_3_false_false h1 h2 h3 h4 (decide_eq_false hle) w
        · exact lim_calls fp fq lim_6_3_false_true h1 h2 h3 h4 (decide_eq_false hle) w
  · rcases hB with ⟨h3, h4⟩ | ⟨h3, h4⟩ | ⟨h3, h4⟩ | ⟨h3, h4⟩
    · by_cases hle : p ≤ q
      · omega
      · cases t
        · exact lim_calls fp fq lim_7_0_false_false h1 h2 h3 h4 (decide_eq_false hle) w
        · exact lim_calls fp fq lim_7_0_false_true h1 h2 h3 h4 (decide_eq_false hle) w
    · by_cases hle : p ≤ q
      · omega
      · cases t
        · exact lim_calls fp fq lim_7_1_false_false h1 h2 h3 h4 (decide_eq_false hle) w
        · exact lim_calls fp fq lim_7_1_false_true h1 h2 h3 h4 (decide_eq_false hle) w
    · by_cases hle : p ≤ q
      · omega
      · cases t
        · exact lim_calls fp fq lim_7_2_false_false h1 h2 h3 h4 (decide_eq_false hle) w
        · exact lim_calls fp fq lim_7_2_false_true h1 h2 h3 h4 (decide_eq_false hle) w
    · by_cases hle : p ≤ q
      · cases t
        · exact lim_calls fp fq lim_7_3_true_false h1 h2 h3 h4 (decide_eq_true hle) w
        · exact lim_calls fp fq lim_7_3_true_true h1 h2 h3 h4 (decide_eq_true hle) w
      · cases t
        · exact lim_calls fp fq lim_7_3_false_false h1 h2 h3 h4 (decide_eq_false hle) w
        · exact lim_calls fp fq lim_7_3_false_true h1 h2 h3 h4 (decide_eq_false hle) w
end Go.Proofs.YtbfbiggmckbenaaGreatDoor
