/-
  FlowLocals: what a call of it comes to.
-/
import Derived.Test.YtebgepekllelaaaLawLocalsP0
import Derived.Test.YtebgepekllelaaaLawLocalsP1
import Derived.Test.YtebgepekllelaaaLawLocalsP2
import Derived.Test.YtebgepekllelaaaLawLocalsP3
import Derived.Test.YtebgepekllelaaaLawLocalsP4
import Derived.Test.YtebgepekllelaaaLawLocalsP5
import Derived.Test.YtebgepekllelaaaLawLocalsP6
import Derived.Test.YtebgepekllelaaaLawLocalsP7
namespace Go.Proofs.Ytebgepekllelaaa
open Go Vx

theorem locals_any (a b c d : Int) (w0 : World) : Calls Try.prog 8 #[.int .i64 a, .int .i64 b, .int .i64 c, .int .i64 d] w0 fun e w' => e = .returned (.bool true) ∧ Go.RowKit.Below w0.heap.size w0 w' := by
  obtain ⟨p, hp, fp⟩ := mask_and a 7 (by decide)
  obtain ⟨w, hw, fw⟩ := mask_and b 7 (by decide)
  obtain ⟨k, hk, fk⟩ := mask_and c 15 (by decide)
  obtain ⟨q, hq, fq⟩ := mask_and d 3 (by decide)
  have kp : (MK.and 0 7 p).OK (rho4 a b c d) := fp
  have kw : (MK.and 1 7 w).OK (rho4 a b c d) := fw
  have kk : (MK.and 2 15 k).OK (rho4 a b c d) := fk
  have kq : (MK.and 3 3 q).OK (rho4 a b c d) := fq
  clear fp fw fk fq
  have one : ∀ k', locOne p w k' = true → k = k' → Calls Try.prog 8 #[.int .i64 a, .int .i64 b, .int .i64 c, .int .i64 d] w0 fun e w' => e = .returned (.bool true) ∧ Go.RowKit.Below w0.heap.size w0 w' := fun k' h e => by
    subst e
    exact lawM_calls (ρ := rho4 a b c d) (all_cons kp (all_cons kw (all_cons kk (all_cons kq all_nil)))) ⟨[], List.mem_cons_self, fun c hc => by cases hc⟩ (by decide) (allN_ok _ 4 h q (by omega)) (vars4 a b c d) w0
  have cls : ∀ n, locCls p w n = true → n ≤ k → Calls Try.prog 8 #[.int .i64 a, .int .i64 b, .int .i64 c, .int .i64 d] w0 fun e w' => e = .returned (.bool true) ∧ Go.RowKit.Below w0.heap.size w0 w' := fun n h hn =>
    lawM_calls (ρ := rho4 a b c d) (all_cons kp (all_cons kw (all_cons kq all_nil))) (span_in (Nat.sub 16 n) n k hn (by have : Nat.sub 16 n = 16 - n := rfl; omega) kk) (by decide) (allN_ok _ 4 h q (by omega)) (vars4 a b c d) w0
  clear kp kw kk kq
  have ep : p = 0 ∨ p = 1 ∨ p = 2 ∨ p = 3 ∨ p = 4 ∨ p = 5 ∨ p = 6 ∨ p = 7 := by omega
  have ew : w = 0 ∨ w = 1 ∨ w = 2 ∨ w = 3 ∨ w = 4 ∨ w = 5 ∨ w = 6 ∨ w = 7 := by omega
  rcases ep with rfl | rfl | rfl | rfl | rfl | rfl | rfl | rfl
  · rcases ew with rfl | rfl | rfl | rfl | rfl | rfl | rfl | rfl
    · by_cases hc : 1 ≤ k
      · exact cls 1 loc_0_0_c hc
      · exact one 0 loc_0_0_0 (by omega)
    · by_cases hc : 1 ≤ k
      · exact cls 1 loc_0_1_c hc
      · exact one 0 loc_0_1_0 (by omega)
    · by_cases hc : 2 ≤ k
      · exact cls 2 loc_0_2_c hc
      · have ek : k = 0 ∨ k = 1 := by omega
        rcases ek with h | h
        · exact one 0 loc_0_2_0 h
        · exact one 1 loc_0_2_1 h
    · by_cases hc : 3 ≤ k
      · exact cls 3 loc_0_3_c hc
      · have ek : k = 0 ∨ k = 1 ∨ k = 2 := by omega
        rcases ek with h | h | h
        · exact one 0 loc_0_3_0 h
        · exact one 1 loc_0_3_1 h
        · exact one 2 loc_0_3_2 h
    · by_cases hc : 4 ≤ k
      · exact cls 4 loc_0_4_c hc
      · have ek : k = 0 ∨ k = 1 ∨ k = 2 ∨ k = 3 := by omega
        rcases ek with h | h | h | h
        · exact one 0 loc_0_4_0 h
        · exact one 1 loc_0_4_1 h
        · exact one 2 loc_0_4_2 h
        · exact one 3 loc_0_4_3 h
    · by_cases hc : 5 ≤ k
      · exact cls 5 loc_0_5_c hc
      · have ek : k = 0 ∨ k = 1 ∨ k = 2 ∨ k = 3 ∨ k = 4 := by omega
        rcases ek with h | h | h | h | h
        · exact one 0 loc_0_5_0 h
        · exact one 1 loc_0_5_1 h
        · exact one 2 loc_0_5_2 h
        · exact one 3 loc_0_5_3 h
        · exact one 4 loc_0_5_4 h
    · by_cases hc : 6 ≤ k
      · exact cls 6 loc_0_6_c hc
      · have ek : k = 0 ∨ k = 1 ∨ k = 2 ∨ k = 3 ∨ k = 4 ∨ k = 5 := by omega
        rcases ek with h | h | h | h | h | h
        · exact one 0 loc_0_6_0 h
        · exact one 1 loc_0_6_1 h
        · exact one 2 loc_0_6_2 h
        · exact one 3 loc_0_6_3 h
        · exact one 4 loc_0_6_4 h
        · exact one 5 loc_0_6_5 h
    · by_cases hc : 7 ≤ k
      · exact cls 7 loc_0_7_c hc
      · have ek : k = 0 ∨ k = 1 ∨ k = 2 ∨ k = 3 ∨ k = 4 ∨ k = 5 ∨ k = 6 := by omega
        rcases ek with h | h | h | h | h | h | h
        · exact one 0 loc_0_7_0 h
        · exact one 1 loc_0_7_1 h
        · exact one 2 loc_0_7_2 h
        · exact one 3 loc_0_7_3 h
        · exact one 4 loc_0_7_4 h
        · exact one 5 loc_0_7_5 h
        · exact one 6 loc_0_7_6 h
  · rcases ew with rfl | rfl | rfl | rfl | rfl | rfl | rfl | rfl
    · by_cases hc : 1 ≤ k
      · exact cls 1 loc_1_0_c hc
      · exact one 0 loc_1_0_0 (by omega)
    · by_cases hc : 2 ≤ k
      · exact cls 2 loc_1_1_c hc
      · have ek : k = 0 ∨ k = 1 := by omega
        rcases ek with h | h
        · exact one 0 loc_1_1_0 h
        · exact one 1 loc_1_1_1 h
    · by_cases hc : 3 ≤ k
      · exact cls 3 loc_1_2_c hc
      · have ek : k = 0 ∨ k = 1 ∨ k = 2 := by omega
        rcases ek with h | h | h
        · exact one 0 loc_1_2_0 h
        · exact one 1 loc_1_2_1 h
        · exact one 2 loc_1_2_2 h
    · by_cases hc : 4 ≤ k
      · exact cls 4 loc_1_3_c hc
      · have ek : k = 0 ∨ k = 1 ∨ k = 2 ∨ k = 3 := by omega
        rcases ek with h | h | h | h
        · exact one 0 loc_1_3_0 h
        · exact one 1 loc_1_3_1 h
        · exact one 2 loc_1_3_2 h
        · exact one 3 loc_1_3_3 h
    · by_cases hc : 5 ≤ k
      · exact cls 5 loc_1_4_c hc
      · have ek : k = 0 ∨ k = 1 ∨ k = 2 ∨ k = 3 ∨ k = 4 := by omega
        rcases ek with h | h | h | h | h
        · exact one 0 loc_1_4_0 h
        · exact one 1 loc_1_4_1 h
        · exact one 2 loc_1_4_2 h
        · exact one 3 loc_1_4_3 h
        · exact one 4 loc_1_4_4 h
    · by_cases hc : 6 ≤ k
      · exact cls 6 loc_1_5_c hc
      · have ek : k = 0 ∨ k = 1 ∨ k = 2 ∨ k = 3 ∨ k = 4 ∨ k = 5 := by omega
        rcases ek with h | h | h | h | h | h
        · exact one 0 loc_1_5_0 h
        · exact one 1 loc_1_5_1 h
        · exact one 2 loc_1_5_2 h
        · exact one 3 loc_1_5_3 h
        · exact one 4 loc_1_5_4 h
        · exact one 5 loc_1_5_5 h
    · by_cases hc : 7 ≤ k
      · exact cls 7 loc_1_6_c hc
      · have ek : k = 0 ∨ k = 1 ∨ k = 2 ∨ k = 3 ∨ k = 4 ∨ k = 5 ∨ k = 6 := by omega
        rcases ek with h | h | h | h | h | h | h
        · exact one 0 loc_1_6_0 h
        · exact one 1 loc_1_6_1 h
        · exact one 2 loc_1_6_2 h
        · exact one 3 loc_1_6_3 h
        · exact one 4 loc_1_6_4 h
        · exact one 5 loc_1_6_5 h
        · exact one 6 loc_1_6_6 h
    · by_cases hc : 8 ≤ k
      · exact cls 8 loc_1_7_c hc
      · have ek : k = 0 ∨ k = 1 ∨ k = 2 ∨ k = 3 ∨ k = 4 ∨ k = 5 ∨ k = 6 ∨ k = 7 := by omega
        rcases ek with h | h | h | h | h | h | h | h
        · exact one 0 loc_1_7_0 h
        · exact one 1 loc_1_7_1 h
        · exact one 2 loc_1_7_2 h
        · exact one 3 loc_1_7_3 h
        · exact one 4 loc_1_7_4 h
        · exact one 5 loc_1_7_5 h
        · exact one 6 loc_1_7_6 h
        · exact one 7 loc_1_7_7 h
  · rcases ew with rfl | rfl | rfl | rfl | rfl | rfl | rfl | rfl
    · by_cases hc : 2 ≤ k
      · exact cls 2 loc_2_0_c hc
      · have ek : k = 0 ∨ k = 1 := by omega
        rcases ek with h | h
        · exact one 0 loc_2_0_0 h
        · exact one 1 loc_2_0_1 h
    · by_cases hc : 3 ≤ k
      · exact cls 3 loc_2_1_c hc
      · have ek : k = 0 ∨ k = 1 ∨ k = 2 := by omega
        rcases ek with h | h | h
        · exact one 0 loc_2_1_0 h
        · exact one 1 loc_2_1_1 h
        · exact one 2 loc_2_1_2 h
    · by_cases hc : 4 ≤ k
      · exact cls 4 loc_2_2_c hc
      · have ek : k = 0 ∨ k = 1 ∨ k = 2 ∨ k = 3 := by omega
        rcases ek with h | h | h | h
        · exact one 0 loc_2_2_0 h
        · exact one 1 loc_2_2_1 h
        · exact one 2 loc_2_2_2 h
        · exact one 3 loc_2_2_3 h
    · by_cases hc : 5 ≤ k
      · exact cls 5 loc_2_3_c hc
      · have ek : k = 0 ∨ k = 1 ∨ k = 2 ∨ k = 3 ∨ k = 4 := by omega
        rcases ek with h | h | h | h | h
        · exact one 0 loc_2_3_0 h
        · exact one 1 loc_2_3_1 h
        · exact one 2 loc_2_3_2 h
        · exact one 3 loc_2_3_3 h
        · exact one 4 loc_2_3_4 h
    · by_cases hc : 6 ≤ k
      · exact cls 6 loc_2_4_c hc
      · have ek : k = 0 ∨ k = 1 ∨ k = 2 ∨ k = 3 ∨ k = 4 ∨ k = 5 := by omega
        rcases ek with h | h | h | h | h | h
        · exact one 0 loc_2_4_0 h
        · exact one 1 loc_2_4_1 h
        · exact one 2 loc_2_4_2 h
        · exact one 3 loc_2_4_3 h
        · exact one 4 loc_2_4_4 h
        · exact one 5 loc_2_4_5 h
    · by_cases hc : 7 ≤ k
      · exact cls 7 loc_2_5_c hc
      · have ek : k = 0 ∨ k = 1 ∨ k = 2 ∨ k = 3 ∨ k = 4 ∨ k = 5 ∨ k = 6 := by omega
        rcases ek with h | h | h | h | h | h | h
        · exact one 0 loc_2_5_0 h
        · exact one 1 loc_2_5_1 h
        · exact one 2 loc_2_5_2 h
        · exact one 3 loc_2_5_3 h
        · exact one 4 loc_2_5_4 h
        · exact one 5 loc_2_5_5 h
        · exact one 6 loc_2_5_6 h
    · by_cases hc : 8 ≤ k
      · exact cls 8 loc_2_6_c hc
      · have ek : k = 0 ∨ k = 1 ∨ k = 2 ∨ k = 3 ∨ k = 4 ∨ k = 5 ∨ k = 6 ∨ k = 7 := by omega
        rcases ek with h | h | h | h | h | h | h | h
        · exact one 0 loc_2_6_0 h
        · exact one 1 loc_2_6_1 h
        · exact one 2 loc_2_6_2 h
        · exact one 3 loc_2_6_3 h
        · exact one 4 loc_2_6_4 h
        · exact one 5 loc_2_6_5 h
        · exact one 6 loc_2_6_6 h
        · exact one 7 loc_2_6_7 h
    · by_cases hc : 9 ≤ k
      · exact cls 9 loc_2_7_c hc
      · have ek : k = 0 ∨ k = 1 ∨ k = 2 ∨ k = 3 ∨ k = 4 ∨ k = 5 ∨ k = 6 ∨ k = 7 ∨ k = 8 := by omega
        rcases ek with h | h | h | h | h | h | h | h | h
        · exact one 0 loc_2_7_0 h
        · exact one 1 loc_2_7_1 h
        · exact one 2 loc_2_7_2 h
        · exact one 3 loc_2_7_3 h
        · exact one 4 loc_2_7_4 h
        · exact one 5 loc_2_7_5 h
        · exact one 6 loc_2_7_6 h
        · exact one 7 loc_2_7_7 h
        · exact one 8 loc_2_7_8 h
  · rcases ew with rfl | rfl | rfl | rfl | rfl | rfl | rfl | rfl
    · by_cases hc : 3 ≤ k
      · exact cls 3 loc_3_0_c hc
      · have ek : k = 0 ∨ k = 1 ∨ k = 2 := by omega
        rcases ek with h | h | h
        · exact one 0 loc_3_0_0 h
        · exact one 1 loc_3_0_1 h
        · exact one 2 loc_3_0_2 h
    · by_cases hc : 4 ≤ k
      · exact cls 4 loc_3_1_c hc
      · have ek : k = 0 ∨ k = 1 ∨ k = 2 ∨ k = 3 := by omega
        rcases ek with h | h | h | h
        · exact one 0 loc_3_1_0 h
        · exact one 1 loc_3_1_1 h
        · exact one 2 loc_3_1_2 h
        · exact one 3 loc_3_1_3 h
    · by_cases hc : 5 ≤ k
      · exact cls 5 loc_3_2_c hc
      · have ek : k = 0 ∨ k = 1 ∨ k = 2 ∨ k = 3 ∨ k = 4 := by omega
        rcases ek with h | h | h | h | h
        · exact one 0 loc_3_2_0 h
        · exact one 1 loc_3_2_1 h
        · exact one 2 loc_3_2_2 h
        · exact one 3 loc_3_2_3 h
        · exact one 4 loc_3_2_4 h
    · by_cases hc : 6 ≤ k
      · exact cls 6 loc_3_3_c hc
      · have ek : k = 0 ∨ k = 1 ∨ k = 2 ∨ k = 3 ∨ k = 4 ∨ k = 5 := by omega
        rcases ek with h | h | h | h | h | h
        · exact one 0 loc_3_3_0 h
        · exact one 1 loc_3_3_1 h
        · exact one 2 loc_3_3_2 h
        · exact one 3 loc_3_3_3 h
        · exact one 4 loc_3_3_4 h
        · exact one 5 loc_3_3_5 h
    · by_cases hc : 7 ≤ k
      · exact cls 7 loc_3_4_c hc
      · have ek : k = 0 ∨ k = 1 ∨ k = 2 ∨ k = 3 ∨ k = 4 ∨ k = 5 ∨ k = 6 := by omega
        rcases ek with h | h | h | h | h | h | h
        · exact one 0 loc_3_4_0 h
        · exact one 1 loc_3_4_1 h
        · exact one 2 loc_3_4_2 h
        · exact one 3 loc_3_4_3 h
        · exact one 4 loc_3_4_4 h
        · exact one 5 loc_3_4_5 h
        · exact one 6 loc_3_4_6 h
    · by_cases hc : 8 ≤ k
      · exact cls 8 loc_3_5_c hc
      · have ek : k = 0 ∨ k = 1 ∨ k = 2 ∨ k = 3 ∨ k = 4 ∨ k = 5 ∨ k = 6 ∨ k = 7 := by omega
        rcases ek with h | h | h | h | h | h | h | h
        · exact one 0 loc_3_5_0 h
        · exact one 1 loc_3_5_1 h
        · exact one 2 loc_3_5_2 h
        · exact one 3 loc_3_5_3 h
        · exact one 4 loc_3_5_4 h
        · exact one 5 loc_3_5_5 h
        · exact one 6 loc_3_5_6 h
        · exact one 7 loc_3_5_7 h
    · by_cases hc : 9 ≤ k
      · exact cls 9 loc_3_6_c hc
      · have ek : k = 0 ∨ k = 1 ∨ k = 2 ∨ k = 3 ∨ k = 4 ∨ k = 5 ∨ k = 6 ∨ k = 7 ∨ k = 8 := by omega
        rcases ek with h | h | h | h | h | h | h | h | h
        · exact one 0 loc_3_6_0 h
        · exact one 1 loc_3_6_1 h
        · exact one 2 loc_3_6_2 h
        · exact one 3 loc_3_6_3 h
        · exact one 4 loc_3_6_4 h
        · exact one 5 loc_3_6_5 h
        · exact one 6 loc_3_6_6 h
        · exact one 7 loc_3_6_7 h
        · exact one 8 loc_3_6_8 h
    · by_cases hc : 10 ≤ k
      · exact cls 10 loc_3_7_c hc
      · have ek : k = 0 ∨ k = 1 ∨ k = 2 ∨ k = 3 ∨ k = 4 ∨ k = 5 ∨ k = 6 ∨ k = 7 ∨ k = 8 ∨ k = 9 := by omega
        rcases ek with h | h | h | h | h | h | h | h | h | h
        · exact one 0 loc_3_7_0 h
        · exact one 1 loc_3_7_1 h
        · exact one 2 loc_3_7_2 h
        · exact one 3 loc_3_7_3 h
        · exact one 4 loc_3_7_4 h
        · exact one 5 loc_3_7_5 h
        · exact one 6 loc_3_7_6 h
        · exact one 7 loc_3_7_7 h
        · exact one 8 loc_3_7_8 h
        · exact one 9 loc_3_7_9 h
  · rcases ew with rfl | rfl | rfl | rfl | rfl | rfl | rfl | rfl
    · by_cases hc : 4 ≤ k
      · exact cls 4 loc_4_0_c hc
      · have ek : k = 0 ∨ k = 1 ∨ k = 2 ∨ k = 3 := by omega
        rcases ek with h | h | h | h
        · exact one 0 loc_4_0_0 h
        · exact one 1 loc_4_0_1 h
        · exact one 2 loc_4_0_2 h
        · exact one 3 loc_4_0_3 h
    · by_cases hc : 5 ≤ k
      · exact cls 5 loc_4_1_c hc
      · have ek : k = 0 ∨ k = 1 ∨ k = 2 ∨ k = 3 ∨ k = 4 := by omega
        rcases ek with h | h | h | h | h
        · exact one 0 loc_4_1_0 h
        · exact one 1 loc_4_1_1 h
        · exact one 2 loc_4_1_2 h
        · exact one 3 loc_4_1_3 h
        · exact one 4 loc_4_1_4 h
    · by_cases hc : 6 ≤ k
      · exact cls 6 loc_4_2_c hc
      · have ek : k = 0 ∨ k = 1 ∨ k = 2 ∨ k = 3 ∨ k = 4 ∨ k = 5 := by omega
        rcases ek with h | h | h | h | h | h
        · exact one 0 loc_4_2_0 h
        · exact one 1 loc_4_2_1 h
        · exact one 2 loc_4_2_2 h
        · exact one 3 loc_4_2_3 h
        · exact one 4 loc_4_2_4 h
        · exact one 5 loc_4_2_5 h
    · by_cases hc : 7 ≤ k
      · exact cls 7 loc_4_3_c hc
      · have ek : k = 0 ∨ k = 1 ∨ k = 2 ∨ k = 3 ∨ k = 4 ∨ k = 5 ∨ k = 6 := by omega
        rcases ek with h | h | h | h | h | h | h
        · exact one 0 loc_4_3_0 h
        · exact one 1 loc_4_3_1 h
        · exact one 2 loc_4_3_2 h
        · exact one 3 loc_4_3_3 h
        · exact one 4 loc_4_3_4 h
        · exact one 5 loc_4_3_5 h
        · exact one 6 loc_4_3_6 h
    · by_cases hc : 8 ≤ k
      · exact cls 8 loc_4_4_c hc
      · have ek : k = 0 ∨ k = 1 ∨ k = 2 ∨ k = 3 ∨ k = 4 ∨ k = 5 ∨ k = 6 ∨ k = 7 := by omega
        rcases ek with h | h | h | h | h | h | h | h
        · exact one 0 loc_4_4_0 h
        · exact one 1 loc_4_4_1 h
        · exact one 2 loc_4_4_2 h
        · exact one 3 loc_4_4_3 h
        · exact one 4 loc_4_4_4 h
        · exact one 5 loc_4_4_5 h
        · exact one 6 loc_4_4_6 h
        · exact one 7 loc_4_4_7 h
    · by_cases hc : 9 ≤ k
      · exact cls 9 loc_4_5_c hc
      · have ek : k = 0 ∨ k = 1 ∨ k = 2 ∨ k = 3 ∨ k = 4 ∨ k = 5 ∨ k = 6 ∨ k = 7 ∨ k = 8 := by omega
        rcases ek with h | h | h | h | h | h | h | h | h
        · exact one 0 loc_4_5_0 h
        · exact one 1 loc_4_5_1 h
        · exact one 2 loc_4_5_2 h
        · exact one 3 loc_4_5_3 h
        · exact one 4 loc_4_5_4 h
        · exact one 5 loc_4_5_5 h
        · exact one 6 loc_4_5_6 h
        · exact one 7 loc_4_5_7 h
        · exact one 8 loc_4_5_8 h
    · by_cases hc : 10 ≤ k
      · exact cls 10 loc_4_6_c hc
      · have ek : k = 0 ∨ k = 1 ∨ k = 2 ∨ k = 3 ∨ k = 4 ∨ k = 5 ∨ k = 6 ∨ k = 7 ∨ k = 8 ∨ k = 9 := by omega
        rcases ek with h | h | h | h | h | h | h | h | h | h
        · exact one 0 loc_4_6_0 h
        · exact one 1 loc_4_6_1 h
        · exact one 2 loc_4_6_2 h
        · exact one 3 loc_4_6_3 h
        · exact one 4 loc_4_6_4 h
        · exact one 5 loc_4_6_5 h
        · exact one 6 loc_4_6_6 h
        · exact one 7 loc_4_6_7 h
        · exact one 8 loc_4_6_8 h
        · exact one 9 loc_4_6_9 h
    · by_cases hc : 11 ≤ k
      · exact cls 11 loc_4_7_c hc
      · have ek : k = 0 ∨ k = 1 ∨ k = 2 ∨ k = 3 ∨ k = 4 ∨ k = 5 ∨ k = 6 ∨ k = 7 ∨ k = 8 ∨ k = 9 ∨ k = 10 := by omega
        rcases ek with h | h | h | h | h | h | h | h | h | h | h
        · exact one 0 loc_4_7_0 h
        · exact one 1 loc_4_7_1 h
        · exact one 2 loc_4_7_2 h
        · exact one 3 loc_4_7_3 h
        · exact one 4 loc_4_7_4 h
        · exact one 5 loc_4_7_5 h
        · exact one 6 loc_4_7_6 h
        · exact one 7 loc_4_7_7 h
        · exact one 8 loc_4_7_8 h
        · exact one 9 loc_4_7_9 h
        · exact one 10 loc_4_7_10 h
  · rcases ew with rfl | rfl | rfl | rfl | rfl | rfl | rfl | rfl
    · by_cases hc : 5 ≤ k
      · exact cls 5 loc_5_0_c hc
      · have ek : k = 0 ∨ k = 1 ∨ k = 2 ∨ k = 3 ∨ k = 4 := by omega
        rcases ek with h | h | h | h | h
        · exact one 0 loc_5_0_0 h
        · exact one 1 loc_5_0_1 h
        · exact one 2 loc_5_0_2 h
        · exact one 3 loc_5_0_3 h
        · exact one 4 loc_5_0_4 h
    · by_cases hc : 6 ≤ k
      · exact cls 6 loc_5_1_c hc
      · have ek : k = 0 ∨ k = 1 ∨ k = 2 ∨ k = 3 ∨ k = 4 ∨ k = 5 := by omega
        rcases ek with h | h | h | h | h | h
        · exact one 0 loc_5_1_0 h
        · exact one 1 loc_5_1_1 h
        · exact one 2 loc_5_1_2 h
        · exact one 3 loc_5_1_3 h
        · exact one 4 loc_5_1_4 h
        · exact one 5 loc_5_1_5 h
    · by_cases hc : 7 ≤ k
      · exact cls 7 loc_5_2_c hc
      · have ek : k = 0 ∨ k = 1 ∨ k = 2 ∨ k = 3 ∨ k = 4 ∨ k = 5 ∨ k = 6 := by omega
        rcases ek with h | h | h | h | h | h | h
        · exact one 0 loc_5_2_0 h
        · exact one 1 loc_5_2_1 h
        · exact one 2 loc_5_2_2 h
        · exact one 3 loc_5_2_3 h
        · exact one 4 loc_5_2_4 h
        · exact one 5 loc_5_2_5 h
        · exact one 6 loc_5_2_6 h
    · by_cases hc : 8 ≤ k
      · exact cls 8 loc_5_3_c hc
      · have ek : k = 0 ∨ k = 1 ∨ k = 2 ∨ k = 3 ∨ k = 4 ∨ k = 5 ∨ k = 6 ∨ k = 7 := by omega
        rcases ek with h | h | h | h | h | h | h | h
        · exact one 0 loc_5_3_0 h
        · exact one 1 loc_5_3_1 h
        · exact one 2 loc_5_3_2 h
        · exact one 3 loc_5_3_3 h
        · exact one 4 loc_5_3_4 h
        · exact one 5 loc_5_3_5 h
        · exact one 6 loc_5_3_6 h
        · exact one 7 loc_5_3_7 h
    · by_cases hc : 9 ≤ k
      · exact cls 9 loc_5_4_c hc
      · have ek : k = 0 ∨ k = 1 ∨ k = 2 ∨ k = 3 ∨ k = 4 ∨ k = 5 ∨ k = 6 ∨ k = 7 ∨ k = 8 := by omega
        rcases ek with h | h | h | h | h | h | h | h | h
        · exact one 0 loc_5_4_0 h
        · exact one 1 loc_5_4_1 h
        · exact one 2 loc_5_4_2 h
        · exact one 3 loc_5_4_3 h
        · exact one 4 loc_5_4_4 h
        · exact one 5 loc_5_4_5 h
        · exact one 6 loc_5_4_6 h
        · exact one 7 loc_5_4_7 h
        · exact one 8 loc_5_4_8 h
    · by_cases hc : 10 ≤ k
      · exact cls 10 loc_5_5_c hc
      · have ek : k = 0 ∨ k = 1 ∨ k = 2 ∨ k = 3 ∨ k = 4 ∨ k = 5 ∨ k = 6 ∨ k = 7 ∨ k = 8 ∨ k = 9 := by omega
        rcases ek with h | h | h | h | h | h | h | h | h | h
        · exact one 0 loc_5_5_0 h
        · exact one 1 loc_5_5_1 h
        · exact one 2 loc_5_5_2 h
        · exact one 3 loc_5_5_3 h
        · exact one 4 loc_5_5_4 h
        · exact one 5 loc_5_5_5 h
        · exact one 6 loc_5_5_6 h
        · exact one 7 loc_5_5_7 h
        · exact one 8 loc_5_5_8 h
        · exact one 9 loc_5_5_9 h
    · by_cases hc : 11 ≤ k
      · exact cls 11 loc_5_6_c hc
      · have ek : k = 0 ∨ k = 1 ∨ k = 2 ∨ k = 3 ∨ k = 4 ∨ k = 5 ∨ k = 6 ∨ k = 7 ∨ k = 8 ∨ k = 9 ∨ k = 10 := by omega
        rcases ek with h | h | h | h | h | h | h | h | h | h | h
        · exact one 0 loc_5_6_0 h
        · exact one 1 loc_5_6_1 h
        · exact one 2 loc_5_6_2 h
        · exact one 3 loc_5_6_3 h
        · exact one 4 loc_5_6_4 h
        · exact one 5 loc_5_6_5 h
        · exact one 6 loc_5_6_6 h
        · exact one 7 loc_5_6_7 h
        · exact one 8 loc_5_6_8 h
        · exact one 9 loc_5_6_9 h
        · exact one 10 loc_5_6_10 h
    · by_cases hc : 12 ≤ k
      · exact cls 12 loc_5_7_c hc
      · have ek : k = 0 ∨ k = 1 ∨ k = 2 ∨ k = 3 ∨ k = 4 ∨ k = 5 ∨ k = 6 ∨ k = 7 ∨ k = 8 ∨ k = 9 ∨ k = 10 ∨ k = 11 := by omega
        rcases ek with h | h | h | h | h | h | h | h | h | h | h | h
        · exact one 0 loc_5_7_0 h
        · exact one 1 loc_5_7_1 h
        · exact one 2 loc_5_7_2 h
        · exact one 3 loc_5_7_3 h
        · exact one 4 loc_5_7_4 h
        · exact one 5 loc_5_7_5 h
        · exact one 6 loc_5_7_6 h
        · exact one 7 loc_5_7_7 h
        · exact one 8 loc_5_7_8 h
        · exact one 9 loc_5_7_9 h
        · exact one 10 loc_5_7_10 h
        · exact one 11 loc_5_7_11 h
  · rcases ew with rfl | rfl | rfl | rfl | rfl | rfl | rfl | rfl
    · by_cases hc : 6 ≤ k
      · exact cls 6 loc_6_0_c hc
      · have ek : k = 0 ∨ k = 1 ∨ k = 2 ∨ k = 3 ∨ k = 4 ∨ k = 5 := by omega
        rcases ek with h | h | h | h | h | h
        · exact one 0 loc_6_0_0 h
        · exact one 1 loc_6_0_1 h
        · exact one 2 loc_6_0_2 h
        · exact one 3 loc_6_0_3 h
        · exact one 4 loc_6_0_4 h
        · exact one 5 loc_6_0_5 h
    · by_cases hc : 7 ≤ k
      · exact cls 7 loc_6_1_c hc
      · have ek : k = 0 ∨ k = 1 ∨ k = 2 ∨ k = 3 ∨ k = 4 ∨ k = 5 ∨ k = 6 := by omega
        rcases ek with h | h | h | h | h | h | h
        · exact one 0 loc_6_1_0 h
        · exact one 1 loc_6_1_1 h
        · exact one 2 loc_6_1_2 h
        · exact one 3 loc_6_1_3 h
        · exact one 4 loc_6_1_4 h
        · exact one 5 loc_6_1_5 h
        · exact one 6 loc_6_1_6 h
    · by_cases hc : 8 ≤ k
      · exact cls 8 loc_6_2_c hc
      · have ek : k = 0 ∨ k = 1 ∨ k = 2 ∨ k = 3 ∨ k = 4 ∨ k = 5 ∨ k = 6 ∨ k = 7 := by omega
        rcases ek with h | h | h | h | h | h | h | h
        · exact one 0 loc_6_2_0 h
        · exact one 1 loc_6_2_1 h
        · exact one 2 loc_6_2_2 h
        · exact one 3 loc_6_2_3 h
        · exact one 4 loc_6_2_4 h
        · exact one 5 loc_6_2_5 h
        · exact one 6 loc_6_2_6 h
        · exact one 7 loc_6_2_7 h
    · by_cases hc : 9 ≤ k
      · exact cls 9 loc_6_3_c hc
      · have ek : k = 0 ∨ k = 1 ∨ k = 2 ∨ k = 3 ∨ k = 4 ∨ k = 5 ∨ k = 6 ∨ k = 7 ∨ k = 8 := by omega
        rcases ek with h | h | h | h | h | h | h | h | h
        · exact one 0 loc_6_3_0 h
        · exact one 1 loc_6_3_1 h
        · exact one 2 loc_6_3_2 h
        · exact one 3 loc_6_3_3 h
        · exact one 4 loc_6_3_4 h
        · exact one 5 loc_6_3_5 h
        · exact one 6 loc_6_3_6 h
        · exact one 7 loc_6_3_7 h
        · exact one 8 loc_6_3_8 h
    · by_cases hc : 10 ≤ k
      · exact cls 10 loc_6_4_c hc
      · have ek : k = 0 ∨ k = 1 ∨ k = 2 ∨ k = 3 ∨ k = 4 ∨ k = 5 ∨ k = 6 ∨ k = 7 ∨ k = 8 ∨ k = 9 := by omega
        rcases ek with h | h | h | h | h | h | h | h | h | h
        · exact one 0 loc_6_4_0 h
        · exact one 1 loc_6_4_1 h
        · exact one 2 loc_6_4_2 h
        · exact one 3 loc_6_4_3 h
        · exact one 4 loc_6_4_4 h
        · exact one 5 loc_6_4_5 h
        · exact one 6 loc_6_4_6 h
        · exact one 7 loc_6_4_7 h
        · exact one 8 loc_6_4_8 h
        · exact one 9 loc_6_4_9 h
    · by_cases hc : 11 ≤ k
      · exact cls 11 loc_6_5_c hc
      · have ek : k = 0 ∨ k = 1 ∨ k = 2 ∨ k = 3 ∨ k = 4 ∨ k = 5 ∨ k = 6 ∨ k = 7 ∨ k = 8 ∨ k = 9 ∨ k = 10 := by omega
        rcases ek with h | h | h | h | h | h | h | h | h | h | h
        · exact one 0 loc_6_5_0 h
        · exact one 1 loc_6_5_1 h
        · exact one 2 loc_6_5_2 h
        · exact one 3 loc_6_5_3 h
        · exact one 4 loc_6_5_4 h
        · exact one 5 loc_6_5_5 h
        · exact one 6 loc_6_5_6 h
        · exact one 7 loc_6_5_7 h
        · exact one 8 loc_6_5_8 h
        · exact one 9 loc_6_5_9 h
        · exact one 10 loc_6_5_10 h
    · by_cases hc : 12 ≤ k
      · exact cls 12 loc_6_6_c hc
      · have ek : k = 0 ∨ k = 1 ∨ k = 2 ∨ k = 3 ∨ k = 4 ∨ k = 5 ∨ k = 6 ∨ k = 7 ∨ k = 8 ∨ k = 9 ∨ k = 10 ∨ k = 11 := by omega
        rcases ek with h | h | h | h | h | h | h | h | h | h | h | h
        · exact one 0 loc_6_6_0 h
        · exact one 1 loc_6_6_1 h
        · exact one 2 loc_6_6_2 h
        · exact one 3 loc_6_6_3 h
        · exact one 4 loc_6_6_4 h
        · exact one 5 loc_6_6_5 h
        · exact one 6 loc_6_6_6 h
        · exact one 7 loc_6_6_7 h
        · exact one 8 loc_6_6_8 h
        · exact one 9 loc_6_6_9 h
        · exact one 10 loc_6_6_10 h
        · exact one 11 loc_6_6_11 h
    · by_cases hc : 13 ≤ k
      · exact cls 13 loc_6_7_c hc
      · have ek : k = 0 ∨ k = 1 ∨ k = 2 ∨ k = 3 ∨ k = 4 ∨ k = 5 ∨ k = 6 ∨ k = 7 ∨ k = 8 ∨ k = 9 ∨ k = 10 ∨ k = 11 ∨ k = 12 := by omega
        rcases ek with h | h | h | h | h | h | h | h | h | h | h | h | h
        · exact one 0 loc_6_7_0 h
        · exact one 1 loc_6_7_1 h
        · exact one 2 loc_6_7_2 h
        · exact one 3 loc_6_7_3 h
        · exact one 4 loc_6_7_4 h
        · exact one 5 loc_6_7_5 h
        · exact one 6 loc_6_7_6 h
        · exact one 7 loc_6_7_7 h
        · exact one 8 loc_6_7_8 h
        · exact one 9 loc_6_7_9 h
        · exact one 10 loc_6_7_10 h
        · exact one 11 loc_6_7_11 h
        · exact one 12 loc_6_7_12 h
  · rcases ew with rfl | rfl | rfl | rfl | rfl | rfl | rfl | rfl
    · by_cases hc : 7 ≤ k
      · exact cls 7 loc_7_0_c hc
      · have ek : k = 0 ∨ k = 1 ∨ k = 2 ∨ k = 3 ∨ k = 4 ∨ k = 5 ∨ k = 6 := by omega
        rcases ek with h | h | h | h | h | h | h
        · exact one 0 loc_7_0_0 h
        · exact one 1 loc_7_0_1 h
        · exact one 2 loc_7_0_2 h
        · exact one 3 loc_7_0_3 h
        · exact one 4 loc_7_0_4 h
        · exact one 5 loc_7_0_5 h
        · exact one 6 loc_7_0_6 h
    · by_cases hc : 8 ≤ k
      · exact cls 8 loc_7_1_c hc
      · have ek : k = 0 ∨ k = 1 ∨ k = 2 ∨ k = 3 ∨ k = 4 ∨ k = 5 ∨ k = 6 ∨ k = 7 := by omega
        rcases ek with h | h | h | h | h | h | h | h
        · exact one 0 loc_7_1_0 h
        · exact one 1 loc_7_1_1 h
        · exact one 2 loc_7_1_2 h
        · exact one 3 loc_7_1_3 h
        · exact one 4 loc_7_1_4 h
        · exact one 5 loc_7_1_5 h
        · exact one 6 loc_7_1_6 h
        · exact one 7 loc_7_1_7 h
    · by_cases hc : 9 ≤ k
      · exact cls 9 loc_7_2_c hc
      · have ek : k = 0 ∨ k = 1 ∨ k = 2 ∨ k = 3 ∨ k = 4 ∨ k = 5 ∨ k = 6 ∨ k = 7 ∨ k = 8 := by omega
        rcases ek with h | h | h | h | h | h | h | h | h
        · exact one 0 loc_7_2_0 h
        · exact one 1 loc_7_2_1 h
        · exact one 2 loc_7_2_2 h
        · exact one 3 loc_7_2_3 h
        · exact one 4 loc_7_2_4 h
        · exact one 5 loc_7_2_5 h
        · exact one 6 loc_7_2_6 h
        · exact one 7 loc_7_2_7 h
        · exact one 8 loc_7_2_8 h
    · by_cases hc : 10 ≤ k
      · exact cls 10 loc_7_3_c hc
      · have ek : k = 0 ∨ k = 1 ∨ k = 2 ∨ k = 3 ∨ k = 4 ∨ k = 5 ∨ k = 6 ∨ k = 7 ∨ k = 8 ∨ k = 9 := by omega
        rcases ek with h | h | h | h | h | h | h | h | h | h
        · exact one 0 loc_7_3_0 h
        · exact one 1 loc_7_3_1 h
        · exact one 2 loc_7_3_2 h
        · exact one 3 loc_7_3_3 h
        · exact one 4 loc_7_3_4 h
        · exact one 5 loc_7_3_5 h
        · exact one 6 loc_7_3_6 h
        · exact one 7 loc_7_3_7 h
        · exact one 8 loc_7_3_8 h
        · exact one 9 loc_7_3_9 h
    · by_cases hc : 11 ≤ k
      · exact cls 11 loc_7_4_c hc
      · have ek : k = 0 ∨ k = 1 ∨ k = 2 ∨ k = 3 ∨ k = 4 ∨ k = 5 ∨ k = 6 ∨ k = 7 ∨ k = 8 ∨ k = 9 ∨ k = 10 := by omega
        rcases ek with h | h | h | h | h | h | h | h | h | h | h
        · exact one 0 loc_7_4_0 h
        · exact one 1 loc_7_4_1 h
        · exact one 2 loc_7_4_2 h
        · exact one 3 loc_7_4_3 h
        · exact one 4 loc_7_4_4 h
        · exact one 5 loc_7_4_5 h
        · exact one 6 loc_7_4_6 h
        · exact one 7 loc_7_4_7 h
        · exact one 8 loc_7_4_8 h
        · exact one 9 loc_7_4_9 h
        · exact one 10 loc_7_4_10 h
    · by_cases hc : 12 ≤ k
      · exact cls 12 loc_7_5_c hc
      · have ek : k = 0 ∨ k = 1 ∨ k = 2 ∨ k = 3 ∨ k = 4 ∨ k = 5 ∨ k = 6 ∨ k = 7 ∨ k = 8 ∨ k = 9 ∨ k = 10 ∨ k = 11 := by omega
        rcases ek with h | h | h | h | h | h | h | h | h | h | h | h
        · exact one 0 loc_7_5_0 h
        · exact one 1 loc_7_5_1 h
        · exact one 2 loc_7_5_2 h
        · exact one 3 loc_7_5_3 h
        · exact one 4 loc_7_5_4 h
        · exact one 5 loc_7_5_5 h
        · exact one 6 loc_7_5_6 h
        · exact one 7 loc_7_5_7 h
        · exact one 8 loc_7_5_8 h
        · exact one 9 loc_7_5_9 h
        · exact one 10 loc_7_5_10 h
        · exact one 11 loc_7_5_11 h
    · by_cases hc : 13 ≤ k
      · exact cls 13 loc_7_6_c hc
      · have ek : k = 0 ∨ k = 1 ∨ k = 2 ∨ k = 3 ∨ k = 4 ∨ k = 5 ∨ k = 6 ∨ k = 7 ∨ k = 8 ∨ k = 9 ∨ k = 10 ∨ k = 11 ∨ k = 12 := by omega
        rcases ek with h | h | h | h | h | h | h | h | h | h | h | h | h
        · exact one 0 loc_7_6_0 h
        · exact one 1 loc_7_6_1 h
        · exact one 2 loc_7_6_2 h
        · exact one 3 loc_7_6_3 h
        · exact one 4 loc_7_6_4 h
        · exact one 5 loc_7_6_5 h
        · exact one 6 loc_7_6_6 h
        · exact one 7 loc_7_6_7 h
        · exact one 8 loc_7_6_8 h
        · exact one 9 loc_7_6_9 h
        · exact one 10 loc_7_6_10 h
        · exact one 11 loc_7_6_11 h
        · exact one 12 loc_7_6_12 h
    · by_cases hc : 14 ≤ k
      · exact cls 14 loc_7_7_c hc
      · have ek : k = 0 ∨ k = 1 ∨ k = 2 ∨ k = 3 ∨ k = 4 ∨ k = 5 ∨ k = 6 ∨ k = 7 ∨ k = 8 ∨ k = 9 ∨ k = 10 ∨ k = 11 ∨ k = 12 ∨ k = 13 := by omega
        rcases ek with h | h | h | h | h | h | h | h | h | h | h | h | h | h
        · exact one 0 loc_7_7_0 h
        · exact one 1 loc_7_7_1 h
        · exact one 2 loc_7_7_2 h
        · exact one 3 loc_7_7_3 h
        · exact one 4 loc_7_7_4 h
        · exact one 5 loc_7_7_5 h
        · exact one 6 loc_7_7_6 h
        · exact one 7 loc_7_7_7 h
        · exact one 8 loc_7_7_8 h
        · exact one 9 loc_7_7_9 h
        · exact one 10 loc_7_7_10 h
        · exact one 11 loc_7_7_11 h
        · exact one 12 loc_7_7_12 h
        · exact one 13 loc_7_7_13 h
end Go.Proofs.Ytebgepekllelaaa
