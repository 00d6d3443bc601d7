/-
  ValidStarts: what a call of it comes to.
-/
import Derived.Test.YtbfbiggmckbenaaGreatDoorLawValidStartsC0
import Derived.Test.YtbfbiggmckbenaaGreatDoorLawValidStartsC1
namespace Go.Proofs.YtbfbiggmckbenaaGreatDoor
open Go Vx

theorem starts_all (p : Nat) (q : Nat) (r : Nat) (hp : p ≤ 3) (hq : q ≤ 1) (hr : r ≤ 1) : valM [.and 0 3 p, .and 1 1 q, .and 2 1 r] [[]] 5 [.int .i64 (.var 0), .int .i64 (.var 1), .int .i64 (.var 2)] = true := by
  have ep : p = 0 ∨ p = 1 ∨ p = 2 ∨ p = 3 := by omega
  rcases ep with rfl | rfl | rfl | rfl
  · have eq : q = 0 ∨ q = 1 := by omega
    rcases eq with rfl | rfl
    · have er : r = 0 ∨ r = 1 := by omega
      rcases er with rfl | rfl
      · exact starts0_0_0
      · exact starts1_0_0
    · have er : r = 0 ∨ r = 1 := by omega
      rcases er with rfl | rfl
      · exact starts0_0_1
      · exact starts1_0_1
  · have eq : q = 0 ∨ q = 1 := by omega
    rcases eq with rfl | rfl
    · have er : r = 0 ∨ r = 1 := by omega
      rcases er with rfl | rfl
      · exact starts0_1_0
      · exact starts1_1_0
    · have er : r = 0 ∨ r = 1 := by omega
      rcases er with rfl | rfl
      · exact starts0_1_1
      · exact starts1_1_1
  · have eq : q = 0 ∨ q = 1 := by omega
    rcases eq with rfl | rfl
    · have er : r = 0 ∨ r = 1 := by omega
      rcases er with rfl | rfl
      · exact starts0_2_0
      · exact starts1_2_0
    · have er : r = 0 ∨ r = 1 := by omega
      rcases er with rfl | rfl
      · exact starts0_2_1
      · exact starts1_2_1
  · have eq : q = 0 ∨ q = 1 := by omega
    rcases eq with rfl | rfl
    · have er : r = 0 ∨ r = 1 := by omega
      rcases er with rfl | rfl
      · exact starts0_3_0
      · exact starts1_3_0
    · have er : r = 0 ∨ r = 1 := by omega
      rcases er with rfl | rfl
      · exact starts0_3_1
      · exact starts1_3_1
theorem starts_any (a : Int) (b : Int) (c : Int) (w : World) : Calls Tryz.prog 5 #[.int .i64 a, .int .i64 b, .int .i64 c] w fun e w' => e = .returned (.bool true) ∧ Go.RowKit.Below w.heap.size w w' := by
  obtain ⟨p, hp, fp⟩ := mask_and a 3 (by decide)
  obtain ⟨q, hq, fq⟩ := mask_and b 1 (by decide)
  obtain ⟨r, hr, fr⟩ := mask_and c 1 (by decide)
  have kp : (MK.and 0 3 p).OK (rho3 a b c) := fp
  have kq : (MK.and 1 1 q).OK (rho3 a b c) := fq
  have kr : (MK.and 2 1 r).OK (rho3 a b c) := fr
  exact valM_calls (ρ := rho3 a b c) (all_cons kp (all_cons kq (all_cons kr all_nil))) anyCls (by decide) (starts_all p q r hp hq hr) (.cons (.int rfl) (.cons (.int rfl) (.cons (.int rfl) .nil))) w
end Go.Proofs.YtbfbiggmckbenaaGreatDoor
