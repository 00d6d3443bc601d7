/-
  FlowMemory: each of its cases is run, the alignments by classes; what a call of it comes to.
-/
import Derived.Test.YtebgepekllelaaaLawMore
namespace Go.Proofs.Ytebgepekllelaaa
open Go Vx

noncomputable def memA (k a n : Nat) : Bool := lawM [.rem 0 23 k] (span 1 7 a n) 10 (vars 3)
noncomputable def memB (k a n : Nat) : Bool := allN 4 fun q => lawM [.rem 0 23 k, .and 2 3 q] (span 1 7 a n) 10 (vars 3)
set_option maxRecDepth 100000 in
theorem mem_0_0 : memA 0 0 1 = true := by decide +kernel
set_option maxRecDepth 100000 in
theorem mem_0_1 : memA 0 1 2 = true := by decide +kernel
set_option maxRecDepth 100000 in
theorem mem_0_3 : memA 0 3 1 = true := by decide +kernel
set_option maxRecDepth 100000 in
theorem mem_0_4 : memA 0 4 4 = true := by decide +kernel
set_option maxRecDepth 100000 in
theorem mem_1_0 : memA 1 0 1 = true := by decide +kernel
set_option maxRecDepth 100000 in
theorem mem_1_1 : memA 1 1 3 = true := by decide +kernel
set_option maxRecDepth 100000 in
theorem mem_1_4 : memA 1 4 4 = true := by decide +kernel
set_option maxRecDepth 100000 in
theorem mem_2_0 : memA 2 0 1 = true := by decide +kernel
set_option maxRecDepth 100000 in
theorem mem_2_1 : memA 2 1 2 = true := by decide +kernel
set_option maxRecDepth 100000 in
theorem mem_2_3 : memA 2 3 1 = true := by decide +kernel
set_option maxRecDepth 100000 in
theorem mem_2_4 : memA 2 4 4 = true := by decide +kernel
set_option maxRecDepth 100000 in
theorem mem_3_0 : memA 3 0 1 = true := by decide +kernel
set_option maxRecDepth 100000 in
theorem mem_3_1 : memA 3 1 3 = true := by decide +kernel
set_option maxRecDepth 100000 in
theorem mem_3_4 : memA 3 4 4 = true := by decide +kernel
set_option maxRecDepth 100000 in
theorem mem_4_0 : memA 4 0 1 = true := by decide +kernel
set_option maxRecDepth 100000 in
theorem mem_4_1 : memA 4 1 3 = true := by decide +kernel
set_option maxRecDepth 100000 in
theorem mem_4_4 : memA 4 4 4 = true := by decide +kernel
set_option maxRecDepth 100000 in
theorem mem_5_0 : memA 5 0 1 = true := by decide +kernel
set_option maxRecDepth 100000 in
theorem mem_5_1 : memA 5 1 3 = true := by decide +kernel
set_option maxRecDepth 100000 in
theorem mem_5_4 : memA 5 4 4 = true := by decide +kernel
set_option maxRecDepth 100000 in
theorem mem_6_0 : memA 6 0 1 = true := by decide +kernel
set_option maxRecDepth 100000 in
theorem mem_6_1 : memA 6 1 1 = true := by decide +kernel
set_option maxRecDepth 100000 in
theorem mem_6_2 : memA 6 2 2 = true := by decide +kernel
set_option maxRecDepth 100000 in
theorem mem_6_4 : memA 6 4 4 = true := by decide +kernel
set_option maxRecDepth 100000 in
theorem mem_7_0 : memA 7 0 1 = true := by decide +kernel
set_option maxRecDepth 100000 in
theorem mem_7_1 : memA 7 1 1 = true := by decide +kernel
set_option maxRecDepth 100000 in
theorem mem_7_2 : memA 7 2 2 = true := by decide +kernel
set_option maxRecDepth 100000 in
theorem mem_7_4 : memA 7 4 4 = true := by decide +kernel
set_option maxRecDepth 100000 in
theorem mem_8_0 : memA 8 0 1 = true := by decide +kernel
set_option maxRecDepth 100000 in
theorem mem_8_1 : memA 8 1 3 = true := by decide +kernel
set_option maxRecDepth 100000 in
theorem mem_8_4 : memA 8 4 4 = true := by decide +kernel
set_option maxRecDepth 100000 in
theorem mem_9_0 : memA 9 0 1 = true := by decide +kernel
set_option maxRecDepth 100000 in
theorem mem_9_1 : memA 9 1 3 = true := by decide +kernel
set_option maxRecDepth 100000 in
theorem mem_9_4 : memA 9 4 4 = true := by decide +kernel
set_option maxRecDepth 100000 in
theorem mem_10_0 : memA 10 0 1 = true := by decide +kernel
set_option maxRecDepth 100000 in
theorem mem_10_1 : memA 10 1 1 = true := by decide +kernel
set_option maxRecDepth 100000 in
theorem mem_10_2 : memA 10 2 2 = true := by decide +kernel
set_option maxRecDepth 100000 in
theorem mem_10_4 : memA 10 4 4 = true := by decide +kernel
set_option maxRecDepth 100000 in
theorem mem_11_0 : memA 11 0 1 = true := by decide +kernel
set_option maxRecDepth 100000 in
theorem mem_11_1 : memA 11 1 1 = true := by decide +kernel
set_option maxRecDepth 100000 in
theorem mem_11_2 : memA 11 2 2 = true := by decide +kernel
set_option maxRecDepth 100000 in
theorem mem_11_4 : memA 11 4 4 = true := by decide +kernel
set_option maxRecDepth 100000 in
theorem mem_12_0 : memA 12 0 1 = true := by decide +kernel
set_option maxRecDepth 100000 in
theorem mem_12_1 : memA 12 1 2 = true := by decide +kernel
set_option maxRecDepth 100000 in
theorem mem_12_3 : memA 12 3 1 = true := by decide +kernel
set_option maxRecDepth 100000 in
theorem mem_12_4 : memA 12 4 4 = true := by decide +kernel
set_option maxRecDepth 100000 in
theorem mem_13_0 : memA 13 0 1 = true := by decide +kernel
set_option maxRecDepth 100000 in
theorem mem_13_1 : memA 13 1 2 = true := by decide +kernel
set_option maxRecDepth 100000 in
theorem mem_13_3 : memA 13 3 1 = true := by decide +kernel
set_option maxRecDepth 100000 in
theorem mem_13_4 : memA 13 4 4 = true := by decide +kernel
set_option maxRecDepth 100000 in
theorem mem_14_0 : memB 14 0 1 = true := by decide +kernel
set_option maxRecDepth 100000 in
theorem mem_14_1 : memB 14 1 2 = true := by decide +kernel
set_option maxRecDepth 100000 in
theorem mem_14_3 : memB 14 3 1 = true := by decide +kernel
set_option maxRecDepth 100000 in
theorem mem_14_4 : memB 14 4 4 = true := by decide +kernel
set_option maxRecDepth 100000 in
theorem mem_15_0 : memB 15 0 1 = true := by decide +kernel
set_option maxRecDepth 100000 in
theorem mem_15_1 : memB 15 1 3 = true := by decide +kernel
set_option maxRecDepth 100000 in
theorem mem_15_4 : memB 15 4 4 = true := by decide +kernel
set_option maxRecDepth 100000 in
theorem mem_16_0 : memB 16 0 1 = true := by decide +kernel
set_option maxRecDepth 100000 in
theorem mem_16_1 : memB 16 1 2 = true := by decide +kernel
set_option maxRecDepth 100000 in
theorem mem_16_3 : memB 16 3 1 = true := by decide +kernel
set_option maxRecDepth 100000 in
theorem mem_16_4 : memB 16 4 4 = true := by decide +kernel
set_option maxRecDepth 100000 in
theorem mem_17_0 : memB 17 0 1 = true := by decide +kernel
set_option maxRecDepth 100000 in
theorem mem_17_1 : memB 17 1 3 = true := by decide +kernel
set_option maxRecDepth 100000 in
theorem mem_17_4 : memB 17 4 4 = true := by decide +kernel
set_option maxRecDepth 100000 in
theorem mem_18_0 : memB 18 0 1 = true := by decide +kernel
set_option maxRecDepth 100000 in
theorem mem_18_1 : memB 18 1 3 = true := by decide +kernel
set_option maxRecDepth 100000 in
theorem mem_18_4 : memB 18 4 4 = true := by decide +kernel
set_option maxRecDepth 100000 in
theorem mem_19_0 : memB 19 0 1 = true := by decide +kernel
set_option maxRecDepth 100000 in
theorem mem_19_1 : memB 19 1 1 = true := by decide +kernel
set_option maxRecDepth 100000 in
theorem mem_19_2 : memB 19 2 2 = true := by decide +kernel
set_option maxRecDepth 100000 in
theorem mem_19_4 : memB 19 4 4 = true := by decide +kernel
set_option maxRecDepth 100000 in
theorem mem_20_0 : memB 20 0 1 = true := by decide +kernel
set_option maxRecDepth 100000 in
theorem mem_20_1 : memB 20 1 3 = true := by decide +kernel
set_option maxRecDepth 100000 in
theorem mem_20_4 : memB 20 4 4 = true := by decide +kernel
set_option maxRecDepth 100000 in
theorem mem_21_0 : memB 21 0 1 = true := by decide +kernel
set_option maxRecDepth 100000 in
theorem mem_21_1 : memB 21 1 1 = true := by decide +kernel
set_option maxRecDepth 100000 in
theorem mem_21_2 : memB 21 2 2 = true := by decide +kernel
set_option maxRecDepth 100000 in
theorem mem_21_4 : memB 21 4 4 = true := by decide +kernel
set_option maxRecDepth 100000 in
theorem mem_22_0 : memB 22 0 1 = true := by decide +kernel
set_option maxRecDepth 100000 in
theorem mem_22_1 : memB 22 1 2 = true := by decide +kernel
set_option maxRecDepth 100000 in
theorem mem_22_3 : memB 22 3 1 = true := by decide +kernel
set_option maxRecDepth 100000 in
theorem mem_22_4 : memB 22 4 4 = true := by decide +kernel
theorem memory_any (a b c : Int) (w : World) : Calls Try.prog 10 #[.int .i64 a, .int .i64 b, .int .i64 c] w fun e w' => e = .returned (.bool true) ∧ Go.RowKit.Below w.heap.size w w' := by
  obtain ⟨k, hk, ek⟩ := mask_rem a 23 (by decide)
  obtain ⟨v, hv, ev⟩ := mask_and b 7 (by decide)
  obtain ⟨q, hq, eq⟩ := mask_and c 3 (by decide)
  have hk1 : (MK.rem 0 23 k).OK (rho3 a b c) := ek
  have hv1 : (MK.and 1 7 v).OK (rho3 a b c) := ev
  have hq1 : (MK.and 2 3 q).OK (rho3 a b c) := eq
  clear ek ev eq
  have one : ∀ (x n : Nat), memA k x n = true → x ≤ v → v < x + n → Calls Try.prog 10 #[.int .i64 a, .int .i64 b, .int .i64 c] w fun e w' => e = .returned (.bool true) ∧ Go.RowKit.Below w.heap.size w w' :=
    fun x n h h1 h2 => lawM_calls (all_cons hk1 all_nil) (span_in n x v h1 h2 hv1) (by decide) h (vars3 a b c) w
  have two : ∀ (x n : Nat), memB k x n = true → x ≤ v → v < x + n → Calls Try.prog 10 #[.int .i64 a, .int .i64 b, .int .i64 c] w fun e w' => e = .returned (.bool true) ∧ Go.RowKit.Below w.heap.size w w' :=
    fun x n h h1 h2 => lawM_calls (all_cons hk1 (all_cons hq1 all_nil)) (span_in n x v h1 h2 hv1) (by decide) (allN_ok _ 4 h q (by omega)) (vars3 a b c) w
  clear hk1
  have hk2 : k = 0 ∨ k = 1 ∨ k = 2 ∨ k = 3 ∨ k = 4 ∨ k = 5 ∨ k = 6 ∨ k = 7 ∨ k = 8 ∨ k = 9 ∨ k = 10 ∨ k = 11 ∨ k = 12 ∨ k = 13 ∨ k = 14 ∨ k = 15 ∨ k = 16 ∨ k = 17 ∨ k = 18 ∨ k = 19 ∨ k = 20 ∨ k = 21 ∨ k = 22 := by omega
  rcases hk2 with rfl | rfl | rfl | rfl | rfl | rfl | rfl | rfl | rfl | rfl | rfl | rfl | rfl | rfl | rfl | rfl | rfl | rfl | rfl | rfl | rfl | rfl | rfl
  · by_cases h0 : v < 1
    · exact one 0 1 mem_0_0 (by omega) (by omega)
    by_cases h1 : v < 3
    · exact one 1 2 mem_0_1 (by omega) (by omega)
    by_cases h2 : v < 4
    · exact one 3 1 mem_0_3 (by omega) (by omega)
    exact one 4 4 mem_0_4 (by omega) (by omega)
  · by_cases h0 : v < 1
    · exact one 0 1 mem_1_0 (by omega) (by omega)
    by_cases h1 : v < 4
    · exact one 1 3 mem_1_1 (by omega) (by omega)
    exact one 4 4 mem_1_4 (by omega) (by omega)
  · by_cases h0 : v < 1
    · exact one 0 1 mem_2_0 (by omega) (by omega)
    by_cases h1 : v < 3
    · exact one 1 2 mem_2_1 (by omega) (by omega)
    by_cases h2 : v < 4
    · exact one 3 1 mem_2_3 (by omega) (by omega)
    exact one 4 4 mem_2_4 (by omega) (by omega)
  · by_cases h0 : v < 1
    · exact one 0 1 mem_3_0 (by omega) (by omega)
    by_cases h1 : v < 4
    · exact one 1 3 mem_3_1 (by omega) (by omega)
    exact one 4 4 mem_3_4 (by omega) (by omega)
  · by_cases h0 : v < 1
    · exact one 0 1 mem_4_0 (by omega) (by omega)
    by_cases h1 : v < 4
    · exact one 1 3 mem_4_1 (by omega) (by omega)
    exact one 4 4 mem_4_4 (by omega) (by omega)
  · by_cases h0 : v < 1
    · exact one 0 1 mem_5_0 (by omega) (by omega)
    by_cases h1 : v < 4
    · exact one 1 3 mem_5_1 (by omega) (by omega)
    exact one 4 4 mem_5_4 (by omega) (by omega)
  · by_cases h0 : v < 1
    · exact one 0 1 mem_6_0 (by omega) (by omega)
    by_cases h1 : v < 2
    · exact one 1 1 mem_6_1 (by omega) (by omega)
    by_cases h2 : v < 4
    · exact one 2 2 mem_6_2 (by omega) (by omega)
    exact one 4 4 mem_6_4 (by omega) (by omega)
  · by_cases h0 : v < 1
    · exact one 0 1 mem_7_0 (by omega) (by omega)
    by_cases h1 : v < 2
    · exact one 1 1 mem_7_1 (by omega) (by omega)
    by_cases h2 : v < 4
    · exact one 2 2 mem_7_2 (by omega) (by omega)
    exact one 4 4 mem_7_4 (by omega) (by omega)
  · by_cases h0 : v < 1
    · exact one 0 1 mem_8_0 (by omega) (by omega)
    by_cases h1 : v < 4
    · exact one 1 3 mem_8_1 (by omega) (by omega)
    exact one 4 4 mem_8_4 (by omega) (by omega)
  · by_cases h0 : v < 1
    · exact one 0 1 mem_9_0 (by omega) (by omega)
    by_cases h1 : v < 4
    · exact one 1 3 mem_9_1 (by omega) (by omega)
    exact one 4 4 mem_9_4 (by omega) (by omega)
  · by_cases h0 : v < 1
    · exact one 0 1 mem_10_0 (by omega) (by omega)
    by_cases h1 : v < 2
    · exact one 1 1 mem_10_1 (by omega) (by omega)
    by_cases h2 : v < 4
    · exact one 2 2 mem_10_2 (by omega) (by omega)
    exact one 4 4 mem_10_4 (by omega) (by omega)
  · by_cases h0 : v < 1
    · exact one 0 1 mem_11_0 (by omega) (by omega)
    by_cases h1 : v < 2
    · exact one 1 1 mem_11_1 (by omega) (by omega)
    by_cases h2 : v < 4
    · exact one 2 2 mem_11_2 (by omega) (by omega)
    exact one 4 4 mem_11_4 (by omega) (by omega)
  · by_cases h0 : v < 1
    · exact one 0 1 mem_12_0 (by omega) (by omega)
    by_cases h1 : v < 3
    · exact one 1 2 mem_12_1 (by omega) (by omega)
    by_cases h2 : v < 4
    · exact one 3 1 mem_12_3 (by omega) (by omega)
    exact one 4 4 mem_12_4 (by omega) (by omega)
  · by_cases h0 : v < 1
    · exact one 0 1 mem_13_0 (by omega) (by omega)
    by_cases h1 : v < 3
    · exact one 1 2 mem_13_1 (by omega) (by omega)
    by_cases h2 : v < 4
    · exact one 3 1 mem_13_3 (by omega) (by omega)
    exact one 4 4 mem_13_4 (by omega) (by omega)
  · by_cases h0 : v < 1
    · exact two 0 1 mem_14_0 (by omega) (by omega)
    by_cases h1 : v < 3
    · exact two 1 2 mem_14_1 (by omega) (by omega)
    by_cases h2 : v < 4
    · exact two 3 1 mem_14_3 (by omega) (by omega)
    exact two 4 4 mem_14_4 (by omega) (by omega)
  · by_cases h0 : v < 1
    · exact two 0 1 mem_15_0 (by omega) (by omega)
    by_cases h1 : v < 4
    · exact two 1 3 mem_15_1 (by omega) (by omega)
    exact two 4 4 mem_15_4 (by omega) (by omega)
  · by_cases h0 : v < 1
    · exact two 0 1 mem_16_0 (by omega) (by omega)
    by_cases h1 : v < 3
    · exact two 1 2 mem_16_1 (by omega) (by omega)
    by_cases h2 : v < 4
    · exact two 3 1 mem_16_3 (by omega) (by omega)
    exact two 4 4 mem_16_4 (by omega) (by omega)
  · by_cases h0 : v < 1
    · exact two 0 1 mem_17_0 (by omega) (by omega)
    by_cases h1 : v < 4
    · exact two 1 3 mem_17_1 (by omega) (by omega)
    exact two 4 4 mem_17_4 (by omega) (by omega)
  · by_cases h0 : v < 1
    · exact two 0 1 mem_18_0 (by omega) (by omega)
    by_cases h1 : v < 4
    · exact two 1 3 mem_18_1 (by omega) (by omega)
    exact two 4 4 mem_18_4 (by omega) (by omega)
  · by_cases h0 : v < 1
    · exact two 0 1 mem_19_0 (by omega) (by omega)
    by_cases h1 : v < 2
    · exact two 1 1 mem_19_1 (by omega) (by omega)
    by_cases h2 : v < 4
    · exact two 2 2 mem_19_2 (by omega) (by omega)
    exact two 4 4 mem_19_4 (by omega) (by omega)
  · by_cases h0 : v < 1
    · exact two 0 1 mem_20_0 (by omega) (by omega)
    by_cases h1 : v < 4
    · exact two 1 3 mem_20_1 (by omega) (by omega)
    exact two 4 4 mem_20_4 (by omega) (by omega)
  · by_cases h0 : v < 1
    · exact two 0 1 mem_21_0 (by omega) (by omega)
    by_cases h1 : v < 2
    · exact two 1 1 mem_21_1 (by omega) (by omega)
    by_cases h2 : v < 4
    · exact two 2 2 mem_21_2 (by omega) (by omega)
    exact two 4 4 mem_21_4 (by omega) (by omega)
  · by_cases h0 : v < 1
    · exact two 0 1 mem_22_0 (by omega) (by omega)
    by_cases h1 : v < 3
    · exact two 1 2 mem_22_1 (by omega) (by omega)
    by_cases h2 : v < 4
    · exact two 3 1 mem_22_3 (by omega) (by omega)
    exact two 4 4 mem_22_4 (by omega) (by omega)
end Go.Proofs.Ytebgepekllelaaa
