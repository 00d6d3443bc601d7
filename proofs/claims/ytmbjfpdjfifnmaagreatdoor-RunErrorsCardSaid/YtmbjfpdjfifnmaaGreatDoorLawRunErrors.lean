/-
  RunErrors: what a call of it comes to.
-/
import Derived.Test.YtmbjfpdjfifnmaaGreatDoorLawRunErrorsC0
import Derived.Test.YtmbjfpdjfifnmaaGreatDoorLawRunErrorsC1
import Derived.Test.YtmbjfpdjfifnmaaGreatDoorLawRunErrorsC2
import Derived.Test.YtmbjfpdjfifnmaaGreatDoorLawRunErrorsC3
namespace Go.Proofs.YtmbjfpdjfifnmaaGreatDoor
open Go Vx

theorem rerr_all (p : Nat) (q : Nat) (hp : p < 6) (hq : q < 2) : runM 11 [] [.rem 0 6 p, .and 1 1 q] 3 [.int .i64 (.var 0), .int .i64 (.var 1)] = true := by
  rcases Nat.lt_or_ge p 3 with gp | gp
  · rcases Nat.lt_or_ge p 1 with gp | gp
    · obtain rfl : p = 0 := by omega
      rcases Nat.lt_or_ge q 1 with gq | gq
      · obtain rfl : q = 0 := by omega
        exact rerr_0_0
      · obtain rfl : q = 1 := by omega
        exact rerr_0_1
    · rcases Nat.lt_or_ge p 2 with gp | gp
      · obtain rfl : p = 1 := by omega
        rcases Nat.lt_or_ge q 1 with gq | gq
        · obtain rfl : q = 0 := by omega
          exact rerr_1_0
        · obtain rfl : q = 1 := by omega
          exact rerr_1_1
      · obtain rfl : p = 2 := by omega
        rcases Nat.lt_or_ge q 1 with gq | gq
        · obtain rfl : q = 0 := by omega
          exact rerr_2_0
        · obtain rfl : q = 1 := by omega
          exact rerr_2_1
  · rcases Nat.lt_or_ge p 4 with gp | gp
    · obtain rfl : p = 3 := by omega
      rcases Nat.lt_or_ge q 1 with gq | gq
      · obtain rfl : q = 0 := by omega
        exact rerr_3_0
      · obtain rfl : q = 1 := by omega
        exact rerr_3_1
    · rcases Nat.lt_or_ge p 5 with gp | gp
      · obtain rfl : p = 4 := by omega
        rcases Nat.lt_or_ge q 1 with gq | gq
        · obtain rfl : q = 0 := by omega
          exact rerr_4_0
        · obtain rfl : q = 1 := by omega
          exact rerr_4_1
      · obtain rfl : p = 5 := by omega
        rcases Nat.lt_or_ge q 1 with gq | gq
        · obtain rfl : q = 0 := by omega
          exact rerr_5_0
        · obtain rfl : q = 1 := by omega
          exact rerr_5_1
theorem rerr_any (a : Int) (b : Int) (w : World) : Calls Tryz.prog 3 #[.int .i64 a, .int .i64 b] w fun e w' => e = .returned (.bool true) ∧ Go.RowKit.Below w.heap.size w w' := by
  obtain ⟨p, hp, fp⟩ := mask_rem a 6 (by decide)
  have kp : (MK.rem 0 6 p).OK (rhoL [a, b]) := fp
  obtain ⟨q, hq, fq⟩ := mask_and b 1 (by decide)
  have kq : (MK.and 1 1 q).OK (rhoL [a, b]) := fq
  exact runM_calls awake_run (ρ := rhoL [a, b]) ivs_nil (all_cons kp (all_cons kq all_nil)) (by decide) (rerr_all p q (by omega) (by omega)) (.cons (.int rfl) (.cons (.int rfl) .nil)) w
end Go.Proofs.YtmbjfpdjfifnmaaGreatDoor
