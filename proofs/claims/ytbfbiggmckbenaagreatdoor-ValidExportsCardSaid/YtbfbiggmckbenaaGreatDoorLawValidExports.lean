/-
  ValidExports: what a call of it comes to.
-/
import Derived.Test.YtbfbiggmckbenaaGreatDoorLawValidExportsC0
import Derived.Test.YtbfbiggmckbenaaGreatDoorLawValidExportsC1
namespace Go.Proofs.YtbfbiggmckbenaaGreatDoor
open Go Vx

theorem exports_all (p : Nat) (q : Nat) (r : Bool) (hp : p ≤ 3) (hq : q ≤ 7) : valM [.and 0 3 p, .and 1 7 q] [[]] 4 [.int .i64 (.var 0), .int .i64 (.var 1), .bool r] = true := by
  have ep : p = 0 ∨ p = 1 ∨ p = 2 ∨ p = 3 := by omega
  rcases ep with rfl | rfl | rfl | rfl
  · have eq : q = 0 ∨ q = 1 ∨ q = 2 ∨ q = 3 ∨ q = 4 ∨ q = 5 ∨ q = 6 ∨ q = 7 := by omega
    rcases eq with rfl | rfl | rfl | rfl | rfl | rfl | rfl | rfl
    · cases r
      · exact exports0_0_0
      · exact exports1_0_0
    · cases r
      · exact exports0_0_1
      · exact exports1_0_1
    · cases r
      · exact exports0_0_2
      · exact exports1_0_2
    · cases r
      · exact exports0_0_3
      · exact exports1_0_3
    · cases r
      · exact exports0_0_4
      · exact exports1_0_4
    · cases r
      · exact exports0_0_5
      · exact exports1_0_5
    · cases r
      · exact exports0_0_6
      · exact exports1_0_6
    · cases r
      · exact exports0_0_7
      · exact exports1_0_7
  · have eq : q = 0 ∨ q = 1 ∨ q = 2 ∨ q = 3 ∨ q = 4 ∨ q = 5 ∨ q = 6 ∨ q = 7 := by omega
    rcases eq with rfl | rfl | rfl | rfl | rfl | rfl | rfl | rfl
    · cases r
      · exact exports0_1_0
      · exact exports1_1_0
    · cases r
      · exact exports0_1_1
      · exact exports1_1_1
    · cases r
      · exact exports0_1_2
      · exact exports1_1_2
    · cases r
      · exact exports0_1_3
      · exact exports1_1_3
    · cases r
      · exact exports0_1_4
      · exact exports1_1_4
    · cases r
      · exact exports0_1_5
      · exact exports1_1_5
    · cases r
      · exact exports0_1_6
      · exact exports1_1_6
    · cases r
      · exact exports0_1_7
      · exact exports1_1_7
  · have eq : q = 0 ∨ q = 1 ∨ q = 2 ∨ q = 3 ∨ q = 4 ∨ q = 5 ∨ q = 6 ∨ q = 7 := by omega
    rcases eq with rfl | rfl | rfl | rfl | rfl | rfl | rfl | rfl
    · cases r
      · exact exports0_2_0
      · exact exports1_2_0
    · cases r
      · exact exports0_2_1
      · exact exports1_2_1
    · cases r
      · exact exports0_2_2
      · exact exports1_2_2
    · cases r
      · exact exports0_2_3
      · exact exports1_2_3
    · cases r
      · exact exports0_2_4
      · exact exports1_2_4
    · cases r
      · exact exports0_2_5
      · exact exports1_2_5
    · cases r
      · exact exports0_2_6
      · exact exports1_2_6
    · cases r
      · exact exports0_2_7
      · exact exports1_2_7
  · have eq : q = 0 ∨ q = 1 ∨ q = 2 ∨ q = 3 ∨ q = 4 ∨ q = 5 ∨ q = 6 ∨ q = 7 := by omega
    rcases eq with rfl | rfl | rfl | rfl | rfl | rfl | rfl | rfl
    · cases r
      · exact exports0_3_0
      · exact exports1_3_0
    · cases r
      · exact exports0_3_1
      · exact exports1_3_1
    · cases r
      · exact exports0_3_2
      · exact exports1_3_2
    · cases r
      · exact exports0_3_3
      · exact exports1_3_3
    · cases r
      · exact exports0_3_4
      · exact exports1_3_4
    · cases r
      · exact exports0_3_5
      · exact exports1_3_5
    · cases r
      · exact exports0_3_6
      · exact exports1_3_6
    · cases r
      · exact exports0_3_7
      · exact exports1_3_7
theorem exports_any (a : Int) (b : Int) (c : Bool) (w : World) : Calls Tryz.prog 4 #[.int .i64 a, .int .i64 b, .bool c] w fun e w' => e = .returned (.bool true) ∧ Go.RowKit.Below w.heap.size w w' := by
  obtain ⟨p, hp, fp⟩ := mask_and a 3 (by decide)
  obtain ⟨q, hq, fq⟩ := mask_and b 7 (by decide)
  have kp : (MK.and 0 3 p).OK (rho3 a b 0) := fp
  have kq : (MK.and 1 7 q).OK (rho3 a b 0) := fq
  exact valM_calls (ρ := rho3 a b 0) (all_cons kp (all_cons kq all_nil)) anyCls (by decide) (exports_all p q c hp hq) (.cons (.int rfl) (.cons (.int rfl) (.cons .bool .nil))) w
end Go.Proofs.YtbfbiggmckbenaaGreatDoor
