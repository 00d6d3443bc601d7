/-
  WalkGrow: what a call of it comes to.
-/
import Derived.Test.YtmgejgbomglegaaGreatDoorLawWalkGrowC0
namespace Go.Proofs.YtmgejgbomglegaaGreatDoor
open Go Vx

theorem wgrow_all (p : Nat) (hp : p < 4) : walkM [.and 0 3 p] 8 [.int .i64 (.var 0)] = true := by
  rcases Nat.lt_or_ge p 2 with gp | gp
  · rcases Nat.lt_or_ge p 1 with gp | gp
    · obtain rfl : p = 0 := by omega
      exact wgrow_0
    · obtain rfl : p = 1 := by omega
      exact wgrow_1
  · rcases Nat.lt_or_ge p 3 with gp | gp
    · obtain rfl : p = 2 := by omega
      exact wgrow_2
    · obtain rfl : p = 3 := by omega
      exact wgrow_3
theorem wgrow_any (a : Int) (w : World) : Calls Tryz.prog 8 #[.int .i64 a] w fun e w' => e = .returned (.bool true) ∧ Go.RowKit.Below w.heap.size w w' := by
  obtain ⟨p, hp, fp⟩ := mask_and a 3 (by decide)
  have kp : (MK.and 0 3 p).OK (rho3 a 0 0) := fp
  exact walkM_calls (ρ := rho3 a 0 0) (all_cons kp all_nil) (by decide) (wgrow_all p (by omega)) (.cons (.int rfl) .nil) w
end Go.Proofs.YtmgejgbomglegaaGreatDoor
