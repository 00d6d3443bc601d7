/-
  ValidSegments: what a call of it comes to.
-/
import Derived.Test.YtbfbiggmckbenaaGreatDoorLawValidSegmentsC0
import Derived.Test.YtbfbiggmckbenaaGreatDoorLawValidSegmentsC1
import Derived.Test.YtbfbiggmckbenaaGreatDoorLawValidSegmentsC2
import Derived.Test.YtbfbiggmckbenaaGreatDoorLawValidSegmentsC3
namespace Go.Proofs.YtbfbiggmckbenaaGreatDoor
open Go Vx

theorem segments_all (p : Nat) (q : Bool) (r : Nat) (hp : p ≤ 3) (hr : r ≤ 3) : valM [.and 0 3 p, .and 2 3 r] [[]] 6 [.int .i64 (.var 0), .bool q, .int .i64 (.var 2)] = true := by
  have ep : p = 0 ∨ p = 1 ∨ p = 2 ∨ p = 3 := by omega
  rcases ep with rfl | rfl | rfl | rfl
  · cases q
    · have er : r = 0 ∨ r = 1 ∨ r = 2 ∨ r = 3 := by omega
      rcases er with rfl | rfl | rfl | rfl
      · exact segments0_0_false
      · exact segments1_0_false
      · exact segments2_0_false
      · exact segments3_0_false
    · have er : r = 0 ∨ r = 1 ∨ r = 2 ∨ r = 3 := by omega
      rcases er with rfl | rfl | rfl | rfl
      · exact segments0_0_true
      · exact segments1_0_true
      · exact segments2_0_true
      · exact segments3_0_true
  · cases q
    · have er : r = 0 ∨ r = 1 ∨ r = 2 ∨ r = 3 := by omega
      rcases er with rfl | rfl | rfl | rfl
      · exact segments0_1_false
      · exact segments1_1_false
      · exact segments2_1_false
      · exact segments3_1_false
    · have er : r = 0 ∨ r = 1 ∨ r = 2 ∨ r = 3 := by omega
      rcases er with rfl | rfl | rfl | rfl
      · exact segments0_1_true
      · exact segments1_1_true
      · exact segments2_1_true
      · exact segments3_1_true
  · cases q
    · have er : r = 0 ∨ r = 1 ∨ r = 2 ∨ r = 3 := by omega
      rcases er with rfl | rfl | rfl | rfl
      · exact segments0_2_false
      · exact segments1_2_false
      · exact segments2_2_false
      · exact segments3_2_false
    · have er : r = 0 ∨ r = 1 ∨ r = 2 ∨ r = 3 := by omega
      rcases er with rfl | rfl | rfl | rfl
      · exact segments0_2_true
      · exact segments1_2_true
      · exact segments2_2_true
      · exact segments3_2_true
  · cases q
    · have er : r = 0 ∨ r = 1 ∨ r = 2 ∨ r = 3 := by omega
      rcases er with rfl | rfl | rfl | rfl
      · exact segments0_3_false
      · exact segments1_3_false
      · exact segments2_3_false
      · exact segments3_3_false
    · have er : r = 0 ∨ r = 1 ∨ r = 2 ∨ r = 3 := by omega
      rcases er with rfl | rfl | rfl | rfl
      · exact segments0_3_true
      · exact segments1_3_true
      · exact segments2_3_true
      · exact segments3_3_true
theorem segments_any (a : Int) (b : Bool) (c : Int) (w : World) : Calls Tryz.prog 6 #[.int .i64 a, .bool b, .int .i64 c] w fun e w' => e = .returned (.bool true) ∧ Go.RowKit.Below w.heap.size w w' := by
  obtain ⟨p, hp, fp⟩ := mask_and a 3 (by decide)
  obtain ⟨r, hr, fr⟩ := mask_and c 3 (by decide)
  have kp : (MK.and 0 3 p).OK (rho3 a 0 c) := fp
  have kr : (MK.and 2 3 r).OK (rho3 a 0 c) := fr
  exact valM_calls (ρ := rho3 a 0 c) (all_cons kp (all_cons kr all_nil)) anyCls (by decide) (segments_all p b r hp hr) (.cons (.int rfl) (.cons .bool (.cons (.int rfl) .nil))) w
end Go.Proofs.YtbfbiggmckbenaaGreatDoor
