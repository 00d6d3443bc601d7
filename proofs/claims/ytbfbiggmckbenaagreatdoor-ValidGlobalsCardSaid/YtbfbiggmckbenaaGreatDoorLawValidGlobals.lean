/-
  ValidGlobals: what a call of it comes to.
-/
import Derived.Test.YtbfbiggmckbenaaGreatDoorLawValidGlobalsC0
import Derived.Test.YtbfbiggmckbenaaGreatDoorLawValidGlobalsC1
namespace Go.Proofs.YtbfbiggmckbenaaGreatDoor
open Go Vx

theorem globals_all (p : Nat) (q : Nat) (r : Bool) (hp : p ≤ 3) (hq : q ≤ 3) : valM [.and 0 3 p, .and 1 3 q] [[]] 7 [.int .i64 (.var 0), .int .i64 (.var 1), .bool r] = true := by
  have ep : p = 0 ∨ p = 1 ∨ p = 2 ∨ p = 3 := by omega
  rcases ep with rfl | rfl | rfl | rfl
  · have eq : q = 0 ∨ q = 1 ∨ q = 2 ∨ q = 3 := by omega
    rcases eq with rfl | rfl | rfl | rfl
    · cases r
      · exact globals0_0_0
      · exact globals1_0_0
    · cases r
      · exact globals0_0_1
      · exact globals1_0_1
    · cases r
      · exact globals0_0_2
      · exact globals1_0_2
    · cases r
      · exact globals0_0_3
      · exact globals1_0_3
  · have eq : q = 0 ∨ q = 1 ∨ q = 2 ∨ q = 3 := by omega
    rcases eq with rfl | rfl | rfl | rfl
    · cases r
      · exact globals0_1_0
      · exact globals1_1_0
    · cases r
      · exact globals0_1_1
      · exact globals1_1_1
    · cases r
      · exact globals0_1_2
      · exact globals1_1_2
    · cases r
      · exact globals0_1_3
      · exact globals1_1_3
  · have eq : q = 0 ∨ q = 1 ∨ q = 2 ∨ q = 3 := by omega
    rcases eq with rfl | rfl | rfl | rfl
    · cases r
      · exact globals0_2_0
      · exact globals1_2_0
    · cases r
      · exact globals0_2_1
      · exact globals1_2_1
    · cases r
      · exact globals0_2_2
      · exact globals1_2_2
    · cases r
      · exact globals0_2_3
      · exact globals1_2_3
  · have eq : q = 0 ∨ q = 1 ∨ q = 2 ∨ q = 3 := by omega
    rcases eq with rfl | rfl | rfl | rfl
    · cases r
      · exact globals0_3_0
      · exact globals1_3_0
    · cases r
      · exact globals0_3_1
      · exact globals1_3_1
    · cases r
      · exact globals0_3_2
      · exact globals1_3_2
    · cases r
      · exact globals0_3_3
      · exact globals1_3_3
theorem globals_any (a : Int) (b : Int) (c : Bool) (w : World) : Calls Tryz.prog 7 #[.int .i64 a, .int .i64 b, .bool c] w fun e w' => e = .returned (.bool true) ∧ Go.RowKit.Below w.heap.size w w' := by
  obtain ⟨p, hp, fp⟩ := mask_and a 3 (by decide)
  obtain ⟨q, hq, fq⟩ := mask_and b 3 (by decide)
  have kp : (MK.and 0 3 p).OK (rho3 a b 0) := fp
  have kq : (MK.and 1 3 q).OK (rho3 a b 0) := fq
  exact valM_calls (ρ := rho3 a b 0) (all_cons kp (all_cons kq all_nil)) anyCls (by decide) (globals_all p q c hp hq) (.cons (.int rfl) (.cons (.int rfl) (.cons .bool .nil))) w
end Go.Proofs.YtbfbiggmckbenaaGreatDoor
