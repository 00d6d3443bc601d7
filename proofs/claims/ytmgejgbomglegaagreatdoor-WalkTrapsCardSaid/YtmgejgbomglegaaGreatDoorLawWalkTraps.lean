/-
  WalkTraps: what a call of it comes to.
-/
import Derived.Test.YtmgejgbomglegaaGreatDoorLawWalkTrapsC0
import Derived.Test.YtmgejgbomglegaaGreatDoorLawWalkTrapsC1
import Derived.Test.YtmgejgbomglegaaGreatDoorLawWalkTrapsC2
import Derived.Test.YtmgejgbomglegaaGreatDoorLawWalkTrapsC3
import Derived.Test.YtmgejgbomglegaaGreatDoorLawWalkTrapsC4
import Derived.Test.YtmgejgbomglegaaGreatDoorLawWalkTrapsC5
import Derived.Test.YtmgejgbomglegaaGreatDoorLawWalkTrapsC6
import Derived.Test.YtmgejgbomglegaaGreatDoorLawWalkTrapsC7
namespace Go.Proofs.YtmgejgbomglegaaGreatDoor
open Go Vx

theorem wtraps_all (p : Nat) (q : Nat) (hp : p < 7) (hq : q < 16) : walkM [.rem 0 7 p, .and 1 15 q] 6 [.int .i64 (.var 0), .int .i64 (.var 1)] = true := by
  rcases Nat.lt_or_ge p 3 with gp | gp
  · rcases Nat.lt_or_ge p 1 with gp | gp
    · obtain rfl : p = 0 := by omega
      rcases Nat.lt_or_ge q 8 with gq | gq
      · rcases Nat.lt_or_ge q 4 with gq | gq
        · rcases Nat.lt_or_ge q 2 with gq | gq
          · rcases Nat.lt_or_ge q 1 with gq | gq
            · obtain rfl : q = 0 := by omega
              exact wtraps_0_0
            · obtain rfl : q = 1 := by omega
              exact wtraps_0_1
          · rcases Nat.lt_or_ge q 3 with gq | gq
            · obtain rfl : q = 2 := by omega
              exact wtraps_0_2
            · obtain rfl : q = 3 := by omega
              exact wtraps_0_3
        · rcases Nat.lt_or_ge q 6 with gq | gq
          · rcases Nat.lt_or_ge q 5 with gq | gq
            · obtain rfl : q = 4 := by omega
              exact wtraps_0_4
            · obtain rfl : q = 5 := by omega
              exact wtraps_0_5
          · rcases Nat.lt_or_ge q 7 with gq | gq
            · obtain rfl : q = 6 := by omega
              exact wtraps_0_6
            · obtain rfl : q = 7 := by omega
              exact wtraps_0_7
      · rcases Nat.lt_or_ge q 12 with gq | gq
        · rcases Nat.lt_or_ge q 10 with gq | gq
          · rcases Nat.lt_or_ge q 9 with gq | gq
            · obtain rfl : q = 8 := by omega
              exact wtraps_0_8
            · obtain rfl : q = 9 := by omega
              exact wtraps_0_9
          · rcases Nat.lt_or_ge q 11 with gq | gq
            · obtain rfl : q = 10 := by omega
              exact wtraps_0_10
            · obtain rfl : q = 11 := by omega
              exact wtraps_0_11
        · rcases Nat.lt_or_ge q 14 with gq | gq
          · rcases Nat.lt_or_ge q 13 with gq | gq
            · obtain rfl : q = 12 := by omega
              exact wtraps_0_12
            · obtain rfl : q = 13 := by omega
              exact wtraps_0_13
          · rcases Nat.lt_or_ge q 15 with gq | gq
            · obtain rfl : q = 14 := by omega
              exact wtraps_0_14
            · obtain rfl : q = 15 := by omega
              exact wtraps_0_15
    · rcases Nat.lt_or_ge p 2 with gp | gp
      · obtain rfl : p = 1 := by omega
        rcases Nat.lt_or_ge q 8 with gq | gq
        · rcases Nat.lt_or_ge q 4 with gq | gq
          · rcases Nat.lt_or_ge q 2 with gq | gq
            · rcases Nat.lt_or_ge q 1 with gq | gq
              · obtain rfl : q = 0 := by omega
                exact wtraps_1_0
              · obtain rfl : q = 1 := by omega
                exact wtraps_1_1
            · rcases Nat.lt_or_ge q 3 with gq | gq
              · obtain rfl : q = 2 := by omega
                exact wtraps_1_2
              · obtain rfl : q = 3 := by omega
                exact wtraps_1_3
          · rcases Nat.lt_or_ge q 6 with gq | gq
            · rcases Nat.lt_or_ge q 5 with gq | gq
              · obtain rfl : q = 4 := by omega
                exact wtraps_1_4
              · obtain rfl : q = 5 := by omega
                exact wtraps_1_5
            · rcases Nat.lt_or_ge q 7 with gq | gq
              · obtain rfl : q = 6 := by omega
                exact wtraps_1_6
              · obtain rfl : q = 7 := by omega
                exact wtraps_1_7
        · rcases Nat.lt_or_ge q 12 with gq | gq
          · rcases Nat.lt_or_ge q 10 with gq | gq
            · rcases Nat.lt_or_ge q 9 with gq | gq
              · obtain rfl : q = 8 := by omega
                exact wtraps_1_8
              · obtain rfl : q = 9 := by omega
                exact wtraps_1_9
            · rcases Nat.lt_or_ge q 11 with gq | gq
              · obtain rfl : q = 10 := by omega
                exact wtraps_1_10
              · obtain rfl : q = 11 := by omega
                exact wtraps_1_11
          · rcases Nat.lt_or_ge q 14 with gq | gq
            · rcases Nat.lt_or_ge q 13 with gq | gq
              · obtain rfl : q = 12 := by omega
                exact wtraps_1_12
              · obtain rfl : q = 13 := by omega
                exact wtraps_1_13
            · rcases Nat.lt_or_ge q 15 with gq | gq
              · obtain rfl : q = 14 := by omega
                exact wtraps_1_14
              · obtain rfl : q = 15 := by omega
                exact wtraps_1_15
      · obtain rfl : p = 2 := by omega
        rcases Nat.lt_or_ge q 8 with gq | gq
        · rcases Nat.lt_or_ge q 4 with gq | gq
          · rcases Nat.lt_or_ge q 2 with gq | gq
            · rcases Nat.lt_or_ge q 1 with gq | gq
              · obtain rfl : q = 0 := by omega
                exact wtraps_2_0
              · obtain rfl : q = 1 := by omega
                exact wtraps_2_1
            · rcases Nat.lt_or_ge q 3 with gq | gq
              · obtain rfl : q = 2 := by omega
                exact wtraps_2_2
              · obtain rfl : q = 3 := by omega
                exact wtraps_2_3
          · rcases Nat.lt_or_ge q 6 with gq | gq
            · rcases Nat.lt_or_ge q 5 with gq | gq
              · obtain rfl : q = 4 := by omega
                exact wtraps_2_4
              · obtain rfl : q = 5 := by omega
                exact wtraps_2_5
            · rcases Nat.lt_or_ge q 7 with gq | gq
              · obtain rfl : q = 6 := by omega
                exact wtraps_2_6
              · obtain rfl : q = 7 := by omega
                exact wtraps_2_7
        · rcases Nat.lt_or_ge q 12 with gq | gq
          · rcases Nat.lt_or_ge q 10 with gq | gq
            · rcases Nat.lt_or_ge q 9 with gq | gq
              · obtain rfl : q = 8 := by omega
                exact wtraps_2_8
              · obtain rfl : q = 9 := by omega
                exact wtraps_2_9
            · rcases Nat.lt_or_ge q 11 with gq | gq
              · obtain rfl : q = 10 := by omega
                exact wtraps_2_10
              · obtain rfl : q = 11 := by omega
                exact wtraps_2_11
          · rcases Nat.lt_or_ge q 14 with gq | gq
            · rcases Nat.lt_or_ge q 13 with gq | gq
              · obtain rfl : q = 12 := by omega
                exact wtraps_2_12
              · obtain rfl : q = 13 := by omega
                exact wtraps_2_13
            · rcases Nat.lt_or_ge q 15 with gq | gq
              · obtain rfl : q = 14 := by omega
                exact wtraps_2_14
              · obtain rfl : q = 15 := by omega
                exact wtraps_2_15
  · rcases Nat.lt_or_ge p 5 with gp | gp
    · rcases Nat.lt_or_ge p 4 with gp | gp
      · obtain rfl : p = 3 := by omega
        rcases Nat.lt_or_ge q 8 with gq | gq
        · rcases Nat.lt_or_ge q 4 with gq | gq
          · rcases Nat.lt_or_ge q 2 with gq | gq
            · rcases Nat.lt_or_ge q 1 with gq | gq
              · obtain rfl : q = 0 := by omega
                exact wtraps_3_0
              · obtain rfl : q = 1 := by omega
                exact wtraps_3_1
            · rcases Nat.lt_or_ge q 3 with gq | gq
              · obtain rfl : q = 2 := by omega
                exact wtraps_3_2
              · obtain rfl : q = 3 := by omega
                exact wtraps_3_3
          · rcases Nat.lt_or_ge q 6 with gq | gq
            · rcases Nat.lt_or_ge q 5 with gq | gq
              · obtain rfl : q = 4 := by omega
                exact wtraps_3_4
              · obtain rfl : q = 5 := by omega
                exact wtraps_3_5
            · rcases Nat.lt_or_ge q 7 with gq | gq
              · obtain rfl : q = 6 := by omega
                exact wtraps_3_6
              · obtain rfl : q = 7 := by omega
                exact wtraps_3_7
        · rcases Nat.lt_or_ge q 12 with gq | gq
          · rcases Nat.lt_or_ge q 10 with gq | gq
            · rcases Nat.lt_or_ge q 9 with gq | gq
              · obtain rfl : q = 8 := by omega
                exact wtraps_3_8
              · obtain rfl : q = 9 := by omega
                exact wtraps_3_9
            · rcases Nat.lt_or_ge q 11 with gq | gq
              · obtain rfl : q = 10 := by omega
                exact wtraps_3_10
              · obtain rfl : q = 11 := by omega
                exact wtraps_3_11
          · rcases Nat.lt_or_ge q 14 with gq | gq
            · rcases Nat.lt_or_ge q 13 with gq | gq
              · obtain rfl : q = 12 := by omega
                exact wtraps_3_12
              · obtain rfl : q = 13 := by omega
                exact wtraps_3_13
            · rcases Nat.lt_or_ge q 15 with gq | gq
              · obtain rfl : q = 14 := by omega
                exact wtraps_3_14
              · obtain rfl : q = 15 := by omega
                exact wtraps_3_15
      · obtain rfl : p = 4 := by omega
        rcases Nat.lt_or_ge q 8 with gq | gq
        · rcases Nat.lt_or_ge q 4 with gq | gq
          · rcases Nat.lt_or_ge q 2 with gq | gq
            · rcases Nat.lt_or_ge q 1 with gq | gq
              · obtain rfl : q = 0 := by omega
                exact wtraps_4_0
              · obtain rfl : q = 1 := by omega
                exact wtraps_4_1
            · rcases Nat.lt_or_ge q 3 with gq | gq
              · obtain rfl : q = 2 := by omega
                exact wtraps_4_2
              · obtain rfl : q = 3 := by omega
                exact wtraps_4_3
          · rcases Nat.lt_or_ge q 6 with gq | gq
            · rcases Nat.lt_or_ge q 5 with gq | gq
              · obtain rfl : q = 4 := by omega
                exact wtraps_4_4
              · obtain rfl : q = 5 := by omega
                exact wtraps_4_5
            · rcases Nat.lt_or_ge q 7 with gq | gq
              · obtain rfl : q = 6 := by omega
                exact wtraps_4_6
              · obtain rfl : q = 7 := by omega
                exact wtraps_4_7
        · rcases Nat.lt_or_ge q 12 with gq | gq
          · rcases Nat.lt_or_ge q 10 with gq | gq
            · rcases Nat.lt_or_ge q 9 with gq | gq
              · obtain rfl : q = 8 := by omega
                exact wtraps_4_8
              · obtain rfl : q = 9 := by omega
                exact wtraps_4_9
            · rcases Nat.lt_or_ge q 11 with gq | gq
              · obtain rfl : q = 10 := by omega
                exact wtraps_4_10
              · obtain rfl : q = 11 := by omega
                exact wtraps_4_11
          · rcases Nat.lt_or_ge q 14 with gq | gq
            · rcases Nat.lt_or_ge q 13 with gq | gq
              · obtain rfl : q = 12 := by omega
                exact wtraps_4_12
              · obtain rfl : q = 13 := by omega
                exact wtraps_4_13
            · rcases Nat.lt_or_ge q 15 with gq | gq
              · obtain rfl : q = 14 := by omega
                exact wtraps_4_14
              · obtain rfl : q = 15 := by omega
                exact wtraps_4_15
    · rcases Nat.lt_or_ge p 6 with gp | gp
      · obtain rfl : p = 5 := by omega
        rcases Nat.lt_or_ge q 8 with gq | gq
        · rcases Nat.lt_or_ge q 4 with gq | gq
          · rcases Nat.lt_or_ge q 2 with gq | gq
            · rcases Nat.lt_or_ge q 1 with gq | gq
              · obtain rfl : q = 0 := by omega
                exact wtraps_5_0
              · obtain rfl : q = 1 := by omega
                exact wtraps_5_1
            · rcases Nat.lt_or_ge q 3 with gq | gq
              · obtain rfl : q = 2 := by omega
                exact wtraps_5_2
              · obtain rfl : q = 3 := by omega
                exact wtraps_5_3
          · rcases Nat.lt_or_ge q 6 with gq | gq
            · rcases Nat.lt_or_ge q 5 with gq | gq
              · obtain rfl : q = 4 := by omega
                exact wtraps_5_4
              · obtain rfl : q = 5 := by omega
                exact wtraps_5_5
            · rcases Nat.lt_or_ge q 7 with gq | gq
              · obtain rfl : q = 6 := by omega
                exact wtraps_5_6
              · obtain rfl : q = 7 := by omega
                exact wtraps_5_7
        · rcases Nat.lt_or_ge q 12 with gq | gq
          · rcases Nat.lt_or_ge q 10 with gq | gq
            · rcases Nat.lt_or_ge q 9 with gq | gq
              · obtain rfl : q = 8 := by omega
                exact wtraps_5_8
              · obtain rfl : q = 9 := by omega
                exact wtraps_5_9
            · rcases Nat.lt_or_ge q 11 with gq | gq
              · obtain rfl : q = 10 := by omega
                exact wtraps_5_10
              · obtain rfl : q = 11 := by omega
                exact wtraps_5_11
          · rcases Nat.lt_or_ge q 14 with gq | gq
            · rcases Nat.lt_or_ge q 13 with gq | gq
              · obtain rfl : q = 12 := by omega
                exact wtraps_5_12
              · obtain rfl : q = 13 := by omega
                exact wtraps_5_13
            · rcases Nat.lt_or_ge q 15 with gq | gq
              · obtain rfl : q = 14 := by omega
                exact wtraps_5_14
              · obtain rfl : q = 15 := by omega
                exact wtraps_5_15
      · obtain rfl : p = 6 := by omega
        rcases Nat.lt_or_ge q 8 with gq | gq
        · rcases Nat.lt_or_ge q 4 with gq | gq
          · rcases Nat.lt_or_ge q 2 with gq | gq
            · rcases Nat.lt_or_ge q 1 with gq | gq
              · obtain rfl : q = 0 := by omega
                exact wtraps_6_0
              · obtain rfl : q = 1 := by omega
                exact wtraps_6_1
            · rcases Nat.lt_or_ge q 3 with gq | gq
              · obtain rfl : q = 2 := by omega
                exact wtraps_6_2
              · obtain rfl : q = 3 := by omega
                exact wtraps_6_3
          · rcases Nat.lt_or_ge q 6 with gq | gq
            · rcases Nat.lt_or_ge q 5 with gq | gq
              · obtain rfl : q = 4 := by omega
                exact wtraps_6_4
              · obtain rfl : q = 5 := by omega
                exact wtraps_6_5
            · rcases Nat.lt_or_ge q 7 with gq | gq
              · obtain rfl : q = 6 := by omega
                exact wtraps_6_6
              · obtain rfl : q = 7 := by omega
                exact wtraps_6_7
        · rcases Nat.lt_or_ge q 12 with gq | gq
          · rcases Nat.lt_or_ge q 10 with gq | gq
            · rcases Nat.lt_or_ge q 9 with gq | gq
              · obtain rfl : q = 8 := by omega
                exact wtraps_6_8
              · obtain rfl : q = 9 := by omega
                exact wtraps_6_9
            · rcases Nat.lt_or_ge q 11 with gq | gq
              · obtain rfl : q = 10 := by omega
                exact wtraps_6_10
              · obtain rfl : q = 11 := by omega
                exact wtraps_6_11
          · rcases Nat.lt_or_ge q 14 with gq | gq
            · rcases Nat.lt_or_ge q 13 with gq | gq
              · obtain rfl : q = 12 := by omega
                exact wtraps_6_12
              · obtain rfl : q = 13 := by omega
                exact wtraps_6_13
            · rcases Nat.lt_or_ge q 15 with gq | gq
              · obtain rfl : q = 14 := by omega
                exact wtraps_6_14
              · obtain rfl : q = 15 := by omega
                exact wtraps_6_15
theorem wtraps_any (a : Int) (b : Int) (w : World) : Calls Tryz.prog 6 #[.int .i64 a, .int .i64 b] w fun e w' => e = .returned (.bool true) ∧ Go.RowKit.Below w.heap.size w w' := by
  obtain ⟨p, hp, fp⟩ := mask_rem a 7 (by decide)
  have kp : (MK.rem 0 7 p).OK (rho3 a b 0) := fp
  obtain ⟨q, hq, fq⟩ := mask_and b 15 (by decide)
  have kq : (MK.and 1 15 q).OK (rho3 a b 0) := fq
  exact walkM_calls (ρ := rho3 a b 0) (all_cons kp (all_cons kq all_nil)) (by decide) (wtraps_all p q (by omega) (by omega)) (.cons (.int rfl) (.cons (.int rfl) .nil)) w
end Go.Proofs.YtmgejgbomglegaaGreatDoor
