/-
  WalkLocals: what a call of it comes to.
-/
import Derived.Test.YtmgejgbomglegaaGreatDoorLawWalkLocalsC0
import Derived.Test.YtmgejgbomglegaaGreatDoorLawWalkLocalsC1
namespace Go.Proofs.YtmgejgbomglegaaGreatDoor
open Go Vx

theorem wlocals_all (r : Nat) (hr : r < 8) : walkM [.and 2 7 r] 5 [.int .i64 (.var 0), .int .i64 (.var 1), .int .i64 (.var 2)] = true := by
  rcases Nat.lt_or_ge r 4 with gr | gr
  · rcases Nat.lt_or_ge r 2 with gr | gr
    · rcases Nat.lt_or_ge r 1 with gr | gr
      · obtain rfl : r = 0 := by omega
        exact wlocals_0
      · obtain rfl : r = 1 := by omega
        exact wlocals_1
    · rcases Nat.lt_or_ge r 3 with gr | gr
      · obtain rfl : r = 2 := by omega
        exact wlocals_2
      · obtain rfl : r = 3 := by omega
        exact wlocals_3
  · rcases Nat.lt_or_ge r 6 with gr | gr
    · rcases Nat.lt_or_ge r 5 with gr | gr
      · obtain rfl : r = 4 := by omega
        exact wlocals_4
      · obtain rfl : r = 5 := by omega
        exact wlocals_5
    · rcases Nat.lt_or_ge r 7 with gr | gr
      · obtain rfl : r = 6 := by omega
        exact wlocals_6
      · obtain rfl : r = 7 := by omega
        exact wlocals_7
theorem wlocals_any (a : Int) (b : Int) (c : Int) (w : World) : Calls Tryz.prog 5 #[.int .i64 a, .int .i64 b, .int .i64 c] w fun e w' => e = .returned (.bool true) ∧ Go.RowKit.Below w.heap.size w w' := by
  obtain ⟨r, hr, fr⟩ := mask_and c 7 (by decide)
  have kr : (MK.and 2 7 r).OK (rho3 a b c) := fr
  exact walkM_calls (ρ := rho3 a b c) (all_cons kr all_nil) (by decide) (wlocals_all r (by omega)) (.cons (.int rfl) (.cons (.int rfl) (.cons (.int rfl) .nil))) w
end Go.Proofs.YtmgejgbomglegaaGreatDoor
