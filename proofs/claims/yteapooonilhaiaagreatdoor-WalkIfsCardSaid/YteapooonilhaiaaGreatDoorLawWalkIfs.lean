/-
  WalkIfs: what a call of it comes to.
-/
import Derived.Test.YteapooonilhaiaaGreatDoorLawWalkIfsC0
import Derived.Test.YteapooonilhaiaaGreatDoorLawWalkIfsC1
import Derived.Test.YteapooonilhaiaaGreatDoorLawWalkIfsC2
import Derived.Test.YteapooonilhaiaaGreatDoorLawWalkIfsC3
import Derived.Test.YteapooonilhaiaaGreatDoorLawWalkIfsC4
import Derived.Test.YteapooonilhaiaaGreatDoorLawWalkIfsC5
import Derived.Test.YteapooonilhaiaaGreatDoorLawWalkIfsC6
import Derived.Test.YteapooonilhaiaaGreatDoorLawWalkIfsC7
namespace Go.Proofs.YteapooonilhaiaaGreatDoor
open Go Vx

theorem wifs_all (p : Nat) (q : Nat) (r : Nat) (hp : p < 2) (hq : q < 11) (hr : r < 11) : runM 5 [⟨0, 4294967295, zLo p, zHi p⟩, ⟨1, 4294967295, wLo q, wHi q⟩, ⟨2, 4294967295, wLo r, wHi r⟩] [] 4 [.int .i64 (.var 0), .int .i64 (.var 1), .int .i64 (.var 2)] = true := by
  rcases Nat.lt_or_ge p 1 with gp | gp
  · obtain rfl : p = 0 := by omega
    rcases Nat.lt_or_ge q 5 with gq | gq
    · rcases Nat.lt_or_ge q 2 with gq | gq
      · rcases Nat.lt_or_ge q 1 with gq | gq
        · obtain rfl : q = 0 := by omega
          rcases Nat.lt_or_ge r 5 with gr | gr
          · rcases Nat.lt_or_ge r 2 with gr | gr
            · rcases Nat.lt_or_ge r 1 with gr | gr
              · obtain rfl : r = 0 := by omega
                exact wifs_0_0_0
              · obtain rfl : r = 1 := by omega
                exact wifs_0_0_1
            · rcases Nat.lt_or_ge r 3 with gr | gr
              · obtain rfl : r = 2 := by omega
                exact wifs_0_0_2
              · rcases Nat.lt_or_ge r 4 with gr | gr
                · obtain rfl : r = 3 := by omega
                  exact wifs_0_0_3
                · obtain rfl : r = 4 := by omega
                  exact wifs_0_0_4
          · rcases Nat.lt_or_ge r 8 with gr | gr
            · rcases Nat.lt_or_ge r 6 with gr | gr
              · obtain rfl : r = 5 := by omega
                exact wifs_0_0_5
              · rcases Nat.lt_or_ge r 7 with gr | gr
                · obtain rfl : r = 6 := by omega
                  exact wifs_0_0_6
                · obtain rfl : r = 7 := by omega
                  exact wifs_0_0_7
            · rcases Nat.lt_or_ge r 9 with gr | gr
              · obtain rfl : r = 8 := by omega
                exact wifs_0_0_8
              · rcases Nat.lt_or_ge r 10 with gr | gr
                · obtain rfl : r = 9 := by omega
                  exact wifs_0_0_9
                · obtain rfl : r = 10 := by omega
                  exact wifs_0_0_10
        · obtain rfl : q = 1 := by omega
          rcases Nat.lt_or_ge r 5 with gr | gr
          · rcases Nat.lt_or_ge r 2 with gr | gr
            · rcases Nat.lt_or_ge r 1 with gr | gr
              · obtain rfl : r = 0 := by omega
                exact wifs_0_1_0
              · obtain rfl : r = 1 := by omega
                exact wifs_0_1_1
            · rcases Nat.lt_or_ge r 3 with gr | gr
              · obtain rfl : r = 2 := by omega
                exact wifs_0_1_2
              · rcases Nat.lt_or_ge r 4 with gr | gr
                · obtain rfl : r = 3 := by omega
                  exact wifs_0_1_3
                · obtain rfl : r = 4 := by omega
                  exact wifs_0_1_4
          · rcases Nat.lt_or_ge r 8 with gr | gr
            · rcases Nat.lt_or_ge r 6 with gr | gr
              · obtain rfl : r = 5 := by omega
                exact wifs_0_1_5
              · rcases Nat.lt_or_ge r 7 with gr | gr
                · obtain rfl : r = 6 := by omega
                  exact wifs_0_1_6
                · obtain rfl : r = 7 := by omega
                  exact wifs_0_1_7
            · rcases Nat.lt_or_ge r 9 with gr | gr
              · obtain rfl : r = 8 := by omega
                exact wifs_0_1_8
              · rcases Nat.lt_or_ge r 10 with gr | gr
                · obtain rfl : r = 9 := by omega
                  exact wifs_0_1_9
                · obtain rfl : r = 10 := by omega
                  exact wifs_0_1_10
      · rcases Nat.lt_or_ge q 3 with gq | gq
        · obtain rfl : q = 2 := by omega
          rcases Nat.lt_or_ge r 5 with gr | gr
          · rcases Nat.lt_or_ge r 2 with gr | gr
            · rcases Nat.lt_or_ge r 1 with gr | gr
              · obtain rfl : r = 0 := by omega
                exact wifs_0_2_0
              · obtain rfl : r = 1 := by omega
                exact wifs_0_2_1
            · rcases Nat.lt_or_ge r 3 with gr | gr
              · obtain rfl : r = 2 := by omega
                exact wifs_0_2_2
              · rcases Nat.lt_or_ge r 4 with gr | gr
                · obtain rfl : r = 3 := by omega
                  exact wifs_0_2_3
                · obtain rfl : r = 4 := by omega
                  exact wifs_0_2_4
          · rcases Nat.lt_or_ge r 8 with gr | gr
            · rcases Nat.lt_or_ge r 6 with gr | gr
              · obtain rfl : r = 5 := by omega
                exact wifs_0_2_5
              · rcases Nat.lt_or_ge r 7 with gr | gr
                · obtain rfl : r = 6 := by omega
                  exact wifs_0_2_6
                · obtain rfl : r = 7 := by omega
                  exact wifs_0_2_7
            · rcases Nat.lt_or_ge r 9 with gr | gr
              · obtain rfl : r = 8 := by omega
                exact wifs_0_2_8
              · rcases Nat.lt_or_ge r 10 with gr | gr
                · obtain rfl : r = 9 := by omega
                  exact wifs_0_2_9
                · obtain rfl : r = 10 := by omega
                  exact wifs_0_2_10
        · rcases Nat.lt_or_ge q 4 with gq | gq
          · obtain rfl : q = 3 := by omega
            rcases Nat.lt_or_ge r 5 with gr | gr
            · rcases Nat.lt_or_ge r 2 with gr | gr
              · rcases Nat.lt_or_ge r 1 with gr | gr
                · obtain rfl : r = 0 := by omega
                  exact wifs_0_3_0
                · obtain rfl : r = 1 := by omega
                  exact wifs_0_3_1
              · rcases Nat.lt_or_ge r 3 with gr | gr
                · obtain rfl : r = 2 := by omega
                  exact wifs_0_3_2
                · rcases Nat.lt_or_ge r 4 with gr | gr
                  · obtain rfl : r = 3 := by omega
                    exact wifs_0_3_3
                  · obtain rfl : r = 4 := by omega
                    exact wifs_0_3_4
            · rcases Nat.lt_or_ge r 8 with gr | gr
              · rcases Nat.lt_or_ge r 6 with gr | gr
                · obtain rfl : r = 5 := by omega
                  exact wifs_0_3_5
                · rcases Nat.lt_or_ge r 7 with gr | gr
                  · obtain rfl : r = 6 := by omega
                    exact wifs_0_3_6
                  · obtain rfl : r = 7 := by omega
                    exact wifs_0_3_7
              · rcases Nat.lt_or_ge r 9 with gr | gr
                · obtain rfl : r = 8 := by omega
                  exact wifs_0_3_8
                · rcases Nat.lt_or_ge r 10 with gr | gr
                  · obtain rfl : r = 9 := by omega
                    exact wifs_0_3_9
                  · obtain rfl : r = 10 := by omega
                    exact wifs_0_3_10
          · obtain rfl : q = 4 := by omega
            rcases Nat.lt_or_ge r 5 with gr | gr
            · rcases Nat.lt_or_ge r 2 with gr | gr
              · rcases Nat.lt_or_ge r 1 with gr | gr
                · obtain rfl : r = 0 := by omega
                  exact wifs_0_4_0
                · obtain rfl : r = 1 := by omega
                  exact wifs_0_4_1
              · rcases Nat.lt_or_ge r 3 with gr | gr
                · obtain rfl : r = 2 := by omega
                  exact wifs_0_4_2
                · rcases Nat.lt_or_ge r 4 with gr | gr
                  · obtain rfl : r = 3 := by omega
                    exact wifs_0_4_3
                  · obtain rfl : r = 4 := by omega
                    exact wifs_0_4_4
            · rcases Nat.lt_or_ge r 8 with gr | gr
              · rcases Nat.lt_or_ge r 6 with gr | gr
                · obtain rfl : r = 5 := by omega
                  exact wifs_0_4_5
                · rcases Nat.lt_or_ge r 7 with gr | gr
                  · obtain rfl : r = 6 := by omega
                    exact wifs_0_4_6
                  · obtain rfl : r = 7 := by omega
                    exact wifs_0_4_7
              · rcases Nat.lt_or_ge r 9 with gr | gr
                · obtain rfl : r = 8 := by omega
                  exact wifs_0_4_8
                · rcases Nat.lt_or_ge r 10 with gr | gr
                  · obtain rfl : r = 9 := by omega
                    exact wifs_0_4_9
                  · obtain rfl : r = 10 := by omega
                    exact wifs_0_4_10
    · rcases Nat.lt_or_ge q 8 with gq | gq
      · rcases Nat.lt_or_ge q 6 with gq | gq
        · obtain rfl : q = 5 := by omega
          rcases Nat.lt_or_ge r 5 with gr | gr
          · rcases Nat.lt_or_ge r 2 with gr | gr
            · rcases Nat.lt_or_ge r 1 with gr | gr
              · obtain rfl : r = 0 := by omega
                exact wifs_0_5_0
              · obtain rfl : r = 1 := by omega
                exact wifs_0_5_1
            · rcases Nat.lt_or_ge r 3 with gr | gr
              · obtain rfl : r = 2 := by omega
                exact wifs_0_5_2
              · rcases Nat.lt_or_ge r 4 with gr | gr
                · obtain rfl : r = 3 := by omega
                  exact wifs_0_5_3
                · obtain rfl : r = 4 := by omega
                  exact wifs_0_5_4
          · rcases Nat.lt_or_ge r 8 with gr | gr
            · rcases Nat.lt_or_ge r 6 with gr | gr
              · obtain rfl : r = 5 := by omega
                exact wifs_0_5_5
              · rcases Nat.lt_or_ge r 7 with gr | gr
                · obtain rfl : r = 6 := by omega
                  exact wifs_0_5_6
                · obtain rfl : r = 7 := by omega
                  exact wifs_0_5_7
            · rcases Nat.lt_or_ge r 9 with gr | gr
              · obtain rfl : r = 8 := by omega
                exact wifs_0_5_8
              · rcases Nat.lt_or_ge r 10 with gr | gr
                · obtain rfl : r = 9 := by omega
                  exact wifs_0_5_9
                · obtain rfl : r = 10 := by omega
                  exact wifs_0_5_10
        · rcases Nat.lt_or_ge q 7 with gq | gq
          · obtain rfl : q = 6 := by omega
            rcases Nat.lt_or_ge r 5 with gr | gr
            · rcases Nat.lt_or_ge r 2 with gr | gr
              · rcases Nat.lt_or_ge r 1 with gr | gr
                · obtain rfl : r = 0 := by omega
                  exact wifs_0_6_0
                · obtain rfl : r = 1 := by omega
                  exact wifs_0_6_1
              · rcases Nat.lt_or_ge r 3 with gr | gr
                · obtain rfl : r = 2 := by omega
                  exact wifs_0_6_2
                · rcases Nat.lt_or_ge r 4 with gr | gr
                  · obtain rfl : r = 3 := by omega
                    exact wifs_0_6_3
                  · obtain rfl : r = 4 := by omega
                    exact wifs_0_6_4
            · rcases Nat.lt_or_ge r 8 with gr | gr
              · rcases Nat.lt_or_ge r 6 with gr | gr
                · obtain rfl : r = 5 := by omega
                  exact wifs_0_6_5
                · rcases Nat.lt_or_ge r 7 with gr | gr
                  · obtain rfl : r = 6 := by omega
                    exact wifs_0_6_6
                  · obtain rfl : r = 7 := by omega
                    exact wifs_0_6_7
              · rcases Nat.lt_or_ge r 9 with gr | gr
                · obtain rfl : r = 8 := by omega
                  exact wifs_0_6_8
                · rcases Nat.lt_or_ge r 10 with gr | gr
                  · obtain rfl : r = 9 := by omega
                    exact wifs_0_6_9
                  · obtain rfl : r = 10 := by omega
                    exact wifs_0_6_10
          · obtain rfl : q = 7 := by omega
            rcases Nat.lt_or_ge r 5 with gr | gr
            · rcases Nat.lt_or_ge r 2 with gr | gr
              · rcases Nat.lt_or_ge r 1 with gr | gr
                · obtain rfl : r = 0 := by omega
                  exact wifs_0_7_0
                · obtain rfl : r = 1 := by omega
                  exact wifs_0_7_1
              · rcases Nat.lt_or_ge r 3 with gr | gr
                · obtain rfl : r = 2 := by omega
                  exact wifs_0_7_2
                · rcases Nat.lt_or_ge r 4 with gr | gr
                  · obtain rfl : r = 3 := by omega
                    exact wifs_0_7_3
                  · obtain rfl : r = 4 := by omega
                    exact wifs_0_7_4
            · rcases Nat.lt_or_ge r 8 with gr | gr
              · rcases Nat.lt_or_ge r 6 with gr | gr
                · obtain rfl : r = 5 := by omega
                  exact wifs_0_7_5
                · rcases Nat.lt_or_ge r 7 with gr | gr
                  · obtain rfl : r = 6 := by omega
                    exact wifs_0_7_6
                  · obtain rfl : r = 7 := by omega
                    exact wifs_0_7_7
              · rcases Nat.lt_or_ge r 9 with gr | gr
                · obtain rfl : r = 8 := by omega
                  exact wifs_0_7_8
                · rcases Nat.lt_or_ge r 10 with gr | gr
                  · obtain rfl : r = 9 := by omega
                    exact wifs_0_7_9
                  · obtain rfl : r = 10 := by omega
                    exact wifs_0_7_10
      · rcases Nat.lt_or_ge q 9 with gq | gq
        · obtain rfl : q = 8 := by omega
          rcases Nat.lt_or_ge r 5 with gr | gr
          · rcases Nat.lt_or_ge r 2 with gr | gr
            · rcases Nat.lt_or_ge r 1 with gr | gr
              · obtain rfl : r = 0 := by omega
                exact wifs_0_8_0
              · obtain rfl : r = 1 := by omega
                exact wifs_0_8_1
            · rcases Nat.lt_or_ge r 3 with gr | gr
              · obtain rfl : r = 2 := by omega
                exact wifs_0_8_2
              · rcases Nat.lt_or_ge r 4 with gr | gr
                · obtain rfl : r = 3 := by omega
                  exact wifs_0_8_3
                · obtain rfl : r = 4 := by omega
                  exact wifs_0_8_4
          · rcases Nat.lt_or_ge r 8 with gr | gr
            · rcases Nat.lt_or_ge r 6 with gr | gr
              · obtain rfl : r = 5 := by omega
                exact wifs_0_8_5
              · rcases Nat.lt_or_ge r 7 with gr | gr
                · obtain rfl : r = 6 := by omega
                  exact wifs_0_8_6
                · obtain rfl : r = 7 := by omega
                  exact wifs_0_8_7
            · rcases Nat.lt_or_ge r 9 with gr | gr
              · obtain rfl : r = 8 := by omega
                exact wifs_0_8_8
              · rcases Nat.lt_or_ge r 10 with gr | gr
                · obtain rfl : r = 9 := by omega
                  exact wifs_0_8_9
                · obtain rfl : r = 10 := by omega
                  exact wifs_0_8_10
        · rcases Nat.lt_or_ge q 10 with gq | gq
          · obtain rfl : q = 9 := by omega
            rcases Nat.lt_or_ge r 5 with gr | gr
            · rcases Nat.lt_or_ge r 2 with gr | gr
              · rcases Nat.lt_or_ge r 1 with gr | gr
                · obtain rfl : r = 0 := by omega
                  exact wifs_0_9_0
                · obtain rfl : r = 1 := by omega
                  exact wifs_0_9_1
              · rcases Nat.lt_or_ge r 3 with gr | gr
                · obtain rfl : r = 2 := by omega
                  exact wifs_0_9_2
                · rcases Nat.lt_or_ge r 4 with gr | gr
                  · obtain rfl : r = 3 := by omega
                    exact wifs_0_9_3
                  · obtain rfl : r = 4 := by omega
                    exact wifs_0_9_4
            · rcases Nat.lt_or_ge r 8 with gr | gr
              · rcases Nat.lt_or_ge r 6 with gr | gr
                · obtain rfl : r = 5 := by omega
                  exact wifs_0_9_5
                · rcases Nat.lt_or_ge r 7 with gr | gr
                  · obtain rfl : r = 6 := by omega
                    exact wifs_0_9_6
                  · obtain rfl : r = 7 := by omega
                    exact wifs_0_9_7
              · rcases Nat.lt_or_ge r 9 with gr | gr
                · obtain rfl : r = 8 := by omega
                  exact wifs_0_9_8
                · rcases Nat.lt_or_ge r 10 with gr | gr
                  · obtain rfl : r = 9 := by omega
                    exact wifs_0_9_9
                  · obtain rfl : r = 10 := by omega
                    exact wifs_0_9_10
          · obtain rfl : q = 10 := by omega
            rcases Nat.lt_or_ge r 5 with gr | gr
            · rcases Nat.lt_or_ge r 2 with gr | gr
              · rcases Nat.lt_or_ge r 1 with gr | gr
                · obtain rfl : r = 0 := by omega
                  exact wifs_0_10_0
                · obtain rfl : r = 1 := by omega
                  exact wifs_0_10_1
              · rcases Nat.lt_or_ge r 3 with gr | gr
                · obtain rfl : r = 2 := by omega
                  exact wifs_0_10_2
                · rcases Nat.lt_or_ge r 4 with gr | gr
                  · obtain rfl : r = 3 := by omega
                    exact wifs_0_10_3
                  · obtain rfl : r = 4 := by omega
                    exact wifs_0_10_4
            · rcases Nat.lt_or_ge r 8 with gr | gr
              · rcases Nat.lt_or_ge r 6 with gr | gr
                · obtain rfl : r = 5 := by omega
                  exact wifs_0_10_5
                · rcases Nat.lt_or_ge r 7 with gr | gr
                  · obtain rfl : r = 6 := by omega
                    exact wifs_0_10_6
                  · obtain rfl : r = 7 := by omega
                    exact wifs_0_10_7
              · rcases Nat.lt_or_ge r 9 with gr | gr
                · obtain rfl : r = 8 := by omega
                  exact wifs_0_10_8
                · rcases Nat.lt_or_ge r 10 with gr | gr
                  · obtain rfl : r = 9 := by omega
                    exact wifs_0_10_9
                  · obtain rfl : r = 10 := by omega
                    exact wifs_0_10_10
  · obtain rfl : p = 1 := by omega
    rcases Nat.lt_or_ge q 5 with gq | gq
    · rcases Nat.lt_or_ge q 2 with gq | gq
      · rcases Nat.lt_or_ge q 1 with gq | gq
        · obtain rfl : q = 0 := by omega
          rcases Nat.lt_or_ge r 5 with gr | gr
          · rcases Nat.lt_or_ge r 2 with gr | gr
            · rcases Nat.lt_or_ge r 1 with gr | gr
              · obtain rfl : r = 0 := by omega
                exact wifs_1_0_0
              · obtain rfl : r = 1 := by omega
                exact wifs_1_0_1
            · rcases Nat.lt_or_ge r 3 with gr | gr
              · obtain rfl : r = 2 := by omega
                exact wifs_1_0_2
              · rcases Nat.lt_or_ge r 4 with gr | gr
                · obtain rfl : r = 3 := by omega
                  exact wifs_1_0_3
                · obtain rfl : r = 4 := by omega
                  exact wifs_1_0_4
          · rcases Nat.lt_or_ge r 8 with gr | gr
            · rcases Nat.lt_or_ge r 6 with gr | gr
              · obtain rfl : r = 5 := by omega
                exact wifs_1_0_5
              · rcases Nat.lt_or_ge r 7 with gr | gr
                · obtain rfl : r = 6 := by omega
                  exact wifs_1_0_6
                · obtain rfl : r = 7 := by omega
                  exact wifs_1_0_7
            · rcases Nat.lt_or_ge r 9 with gr | gr
              · obtain rfl : r = 8 := by omega
                exact wifs_1_0_8
              · rcases Nat.lt_or_ge r 10 with gr | gr
                · obtain rfl : r = 9 := by omega
                  exact wifs_1_0_9
                · obtain rfl : r = 10 := by omega
                  exact wifs_1_0_10
        · obtain rfl : q = 1 := by omega
          rcases Nat.lt_or_ge r 5 with gr | gr
          · rcases Nat.lt_or_ge r 2 with gr | gr
            · rcases Nat.lt_or_ge r 1 with gr | gr
              · obtain rfl : r = 0 := by omega
                exact wifs_1_1_0
              · obtain rfl : r = 1 := by omega
                exact wifs_1_1_1
            · rcases Nat.lt_or_ge r 3 with gr | gr
              · obtain rfl : r = 2 := by omega
                exact wifs_1_1_2
              · rcases Nat.lt_or_ge r 4 with gr | gr
                · obtain rfl : r = 3 := by omega
                  exact wifs_1_1_3
                · obtain rfl : r = 4 := by omega
                  exact wifs_1_1_4
          · rcases Nat.lt_or_ge r 8 with gr | gr
            · rcases Nat.lt_or_ge r 6 with gr | gr
              · obtain rfl : r = 5 := by omega
                exact wifs_1_1_5
              · rcases Nat.lt_or_ge r 7 with gr | gr
                · obtain rfl : r = 6 := by omega
                  exact wifs_1_1_6
                · obtain rfl : r = 7 := by omega
                  exact wifs_1_1_7
            · rcases Nat.lt_or_ge r 9 with gr | gr
              · obtain rfl : r = 8 := by omega
                exact wifs_1_1_8
              · rcases Nat.lt_or_ge r 10 with gr | gr
                · obtain rfl : r = 9 := by omega
                  exact wifs_1_1_9
                · obtain rfl : r = 10 := by omega
                  exact wifs_1_1_10
      · rcases Nat.lt_or_ge q 3 with gq | gq
        · obtain rfl : q = 2 := by omega
          rcases Nat.lt_or_ge r 5 with gr | gr
          · rcases Nat.lt_or_ge r 2 with gr | gr
            · rcases Nat.lt_or_ge r 1 with gr | gr
              · obtain rfl : r = 0 := by omega
                exact wifs_1_2_0
              · obtain rfl : r = 1 := by omega
                exact wifs_1_2_1
            · rcases Nat.lt_or_ge r 3 with gr | gr
              · obtain rfl : r = 2 := by omega
                exact wifs_1_2_2
              · rcases Nat.lt_or_ge r 4 with gr | gr
                · obtain rfl : r = 3 := by omega
                  exact wifs_1_2_3
                · obtain rfl : r = 4 := by omega
                  exact wifs_1_2_4
          · rcases Nat.lt_or_ge r 8 with gr | gr
            · rcases Nat.lt_or_ge r 6 with gr | gr
              · obtain rfl : r = 5 := by omega
                exact wifs_1_2_5
              · rcases Nat.lt_or_ge r 7 with gr | gr
                · obtain rfl : r = 6 := by omega
                  exact wifs_1_2_6
                · obtain rfl : r = 7 := by omega
                  exact wifs_1_2_7
            · rcases Nat.lt_or_ge r 9 with gr | gr
              · obtain rfl : r = 8 := by omega
                exact wifs_1_2_8
              · rcases Nat.lt_or_ge r 10 with gr | gr
                · obtain rfl : r = 9 := by omega
                  exact wifs_1_2_9
                · obtain rfl : r = 10 := by omega
                  exact wifs_1_2_10
        · rcases Nat.lt_or_ge q 4 with gq | gq
          · obtain rfl : q = 3 := by omega
            rcases Nat.lt_or_ge r 5 with gr | gr
            · rcases Nat.lt_or_ge r 2 with gr | gr
              · rcases Nat.lt_or_ge r 1 with gr | gr
                · obtain rfl : r = 0 := by omega
                  exact wifs_1_3_0
                · obtain rfl : r = 1 := by omega
                  exact wifs_1_3_1
              · rcases Nat.lt_or_ge r 3 with gr | gr
                · obtain rfl : r = 2 := by omega
                  exact wifs_1_3_2
                · rcases Nat.lt_or_ge r 4 with gr | gr
                  · obtain rfl : r = 3 := by omega
                    exact wifs_1_3_3
                  · obtain rfl : r = 4 := by omega
                    exact wifs_1_3_4
            · rcases Nat.lt_or_ge r 8 with gr | gr
              · rcases Nat.lt_or_ge r 6 with gr | gr
                · obtain rfl : r = 5 := by omega
                  exact wifs_1_3_5
                · rcases Nat.lt_or_ge r 7 with gr | gr
                  · obtain rfl : r = 6 := by omega
                    exact wifs_1_3_6
                  · obtain rfl : r = 7 := by omega
                    exact wifs_1_3_7
              · rcases Nat.lt_or_ge r 9 with gr | gr
                · obtain rfl : r = 8 := by omega
                  exact wifs_1_3_8
                · rcases Nat.lt_or_ge r 10 with gr | gr
                  · obtain rfl : r = 9 := by omega
                    exact wifs_1_3_9
                  · obtain rfl : r = 10 := by omega
                    exact wifs_1_3_10
          · obtain rfl : q = 4 := by omega
            rcases Nat.lt_or_ge r 5 with gr | gr
            · rcases Nat.lt_or_ge r 2 with gr | gr
              · rcases Nat.lt_or_ge r 1 with gr | gr
                · obtain rfl : r = 0 := by omega
                  exact wifs_1_4_0
                · obtain rfl : r = 1 := by omega
                  exact wifs_1_4_1
              · rcases Nat.lt_or_ge r 3 with gr | gr
                · obtain rfl : r = 2 := by omega
                  exact wifs_1_4_2
                · rcases Nat.lt_or_ge r 4 with gr | gr
                  · obtain rfl : r = 3 := by omega
                    exact wifs_1_4_3
                  · obtain rfl : r = 4 := by omega
                    exact wifs_1_4_4
            · rcases Nat.lt_or_ge r 8 with gr | gr
              · rcases Nat.lt_or_ge r 6 with gr | gr
                · obtain rfl : r = 5 := by omega
                  exact wifs_1_4_5
                · rcases Nat.lt_or_ge r 7 with gr | gr
                  · obtain rfl : r = 6 := by omega
                    exact wifs_1_4_6
                  · obtain rfl : r = 7 := by omega
                    exact wifs_1_4_7
              · rcases Nat.lt_or_ge r 9 with gr | gr
                · obtain rfl : r = 8 := by omega
                  exact wifs_1_4_8
                · rcases Nat.lt_or_ge r 10 with gr | gr
                  · obtain rfl : r = 9 := by omega
                    exact wifs_1_4_9
                  · obtain rfl : r = 10 := by omega
                    exact wifs_1_4_10
    · rcases Nat.lt_or_ge q 8 with gq | gq
      · rcases Nat.lt_or_ge q 6 with gq | gq
        · obtain rfl : q = 5 := by omega
          rcases Nat.lt_or_ge r 5 with gr | gr
          · rcases Nat.lt_or_ge r 2 with gr | gr
            · rcases Nat.lt_or_ge r 1 with gr | gr
              · obtain rfl : r = 0 := by omega
                exact wifs_1_5_0
              · obtain rfl : r = 1 := by omega
                exact wifs_1_5_1
            · rcases Nat.lt_or_ge r 3 with gr | gr
              · obtain rfl : r = 2 := by omega
                exact wifs_1_5_2
              · rcases Nat.lt_or_ge r 4 with gr | gr
                · obtain rfl : r = 3 := by omega
                  exact wifs_1_5_3
                · obtain rfl : r = 4 := by omega
                  exact wifs_1_5_4
          · rcases Nat.lt_or_ge r 8 with gr | gr
            · rcases Nat.lt_or_ge r 6 with gr | gr
              · obtain rfl : r = 5 := by omega
                exact wifs_1_5_5
              · rcases Nat.lt_or_ge r 7 with gr | gr
                · obtain rfl : r = 6 := by omega
                  exact wifs_1_5_6
                · obtain rfl : r = 7 := by omega
                  exact wifs_1_5_7
            · rcases Nat.lt_or_ge r 9 with gr | gr
              · obtain rfl : r = 8 := by omega
                exact wifs_1_5_8
              · rcases Nat.lt_or_ge r 10 with gr | gr
                · obtain rfl : r = 9 := by omega
                  exact wifs_1_5_9
                · obtain rfl : r = 10 := by omega
                  exact wifs_1_5_10
        · rcases Nat.lt_or_ge q 7 with gq | gq
          · obtain rfl : q = 6 := by omega
            rcases Nat.lt_or_ge r 5 with gr | gr
            · rcases Nat.lt_or_ge r 2 with gr | gr
              · rcases Nat.lt_or_ge r 1 with gr | gr
                · obtain rfl : r = 0 := by omega
                  exact wifs_1_6_0
                · obtain rfl : r = 1 := by omega
                  exact wifs_1_6_1
              · rcases Nat.lt_or_ge r 3 with gr | gr
                · obtain rfl : r = 2 := by omega
                  exact wifs_1_6_2
                · rcases Nat.lt_or_ge r 4 with gr | gr
                  · obtain rfl : r = 3 := by omega
                    exact wifs_1_6_3
                  · obtain rfl : r = 4 := by omega
                    exact wifs_1_6_4
            · rcases Nat.lt_or_ge r 8 with gr | gr
              · rcases Nat.lt_or_ge r 6 with gr | gr
                · obtain rfl : r = 5 := by omega
                  exact wifs_1_6_5
                · rcases Nat.lt_or_ge r 7 with gr | gr
                  · obtain rfl : r = 6 := by omega
                    exact wifs_1_6_6
                  · obtain rfl : r = 7 := by omega
                    exact wifs_1_6_7
              · rcases Nat.lt_or_ge r 9 with gr | gr
                · obtain rfl : r = 8 := by omega
                  exact wifs_1_6_8
                · rcases Nat.lt_or_ge r 10 with gr | gr
                  · obtain rfl : r = 9 := by omega
                    exact wifs_1_6_9
                  · obtain rfl : r = 10 := by omega
                    exact wifs_1_6_10
          · obtain rfl : q = 7 := by omega
            rcases Nat.lt_or_ge r 5 with gr | gr
            · rcases Nat.lt_or_ge r 2 with gr | gr
              · rcases Nat.lt_or_ge r 1 with gr | gr
                · obtain rfl : r = 0 := by omega
                  exact wifs_1_7_0
                · obtain rfl : r = 1 := by omega
                  exact wifs_1_7_1
              · rcases Nat.lt_or_ge r 3 with gr | gr
                · obtain rfl : r = 2 := by omega
                  exact wifs_1_7_2
                · rcases Nat.lt_or_ge r 4 with gr | gr
                  · obtain rfl : r = 3 := by omega
                    exact wifs_1_7_3
                  · obtain rfl : r = 4 := by omega
                    exact wifs_1_7_4
            · rcases Nat.lt_or_ge r 8 with gr | gr
              · rcases Nat.lt_or_ge r 6 with gr | gr
                · obtain rfl : r = 5 := by omega
                  exact wifs_1_7_5
                · rcases Nat.lt_or_ge r 7 with gr | gr
                  · obtain rfl : r = 6 := by omega
                    exact wifs_1_7_6
                  · obtain rfl : r = 7 := by omega
                    exact wifs_1_7_7
              · rcases Nat.lt_or_ge r 9 with gr | gr
                · obtain rfl : r = 8 := by omega
                  exact wifs_1_7_8
                · rcases Nat.lt_or_ge r 10 with gr | gr
                  · obtain rfl : r = 9 := by omega
                    exact wifs_1_7_9
                  · obtain rfl : r = 10 := by omega
                    exact wifs_1_7_10
      · rcases Nat.lt_or_ge q 9 with gq | gq
        · obtain rfl : q = 8 := by omega
          rcases Nat.lt_or_ge r 5 with gr | gr
          · rcases Nat.lt_or_ge r 2 with gr | gr
            · rcases Nat.lt_or_ge r 1 with gr | gr
              · obtain rfl : r = 0 := by omega
                exact wifs_1_8_0
              · obtain rfl : r = 1 := by omega
                exact wifs_1_8_1
            · rcases Nat.lt_or_ge r 3 with gr | gr
              · obtain rfl : r = 2 := by omega
                exact wifs_1_8_2
              · rcases Nat.lt_or_ge r 4 with gr | gr
                · obtain rfl : r = 3 := by omega
                  exact wifs_1_8_3
                · obtain rfl : r = 4 := by omega
                  exact wifs_1_8_4
          · rcases Nat.lt_or_ge r 8 with gr | gr
            · rcases Nat.lt_or_ge r 6 with gr | gr
              · obtain rfl : r = 5 := by omega
                exact wifs_1_8_5
              · rcases Nat.lt_or_ge r 7 with gr | gr
                · obtain rfl : r = 6 := by omega
                  exact wifs_1_8_6
                · obtain rfl : r = 7 := by omega
                  exact wifs_1_8_7
            · rcases Nat.lt_or_ge r 9 with gr | gr
              · obtain rfl : r = 8 := by omega
                exact wifs_1_8_8
              · rcases Nat.lt_or_ge r 10 with gr | gr
                · obtain rfl : r = 9 := by omega
                  exact wifs_1_8_9
                · obtain rfl : r = 10 := by omega
                  exact wifs_1_8_10
        · rcases Nat.lt_or_ge q 10 with gq | gq
          · obtain rfl : q = 9 := by omega
            rcases Nat.lt_or_ge r 5 with gr | gr
            · rcases Nat.lt_or_ge r 2 with gr | gr
              · rcases Nat.lt_or_ge r 1 with gr | gr
                · obtain rfl : r = 0 := by omega
                  exact wifs_1_9_0
                · obtain rfl : r = 1 := by omega
                  exact wifs_1_9_1
              · rcases Nat.lt_or_ge r 3 with gr | gr
                · obtain rfl : r = 2 := by omega
                  exact wifs_1_9_2
                · rcases Nat.lt_or_ge r 4 with gr | gr
                  · obtain rfl : r = 3 := by omega
                    exact wifs_1_9_3
                  · obtain rfl : r = 4 := by omega
                    exact wifs_1_9_4
            · rcases Nat.lt_or_ge r 8 with gr | gr
              · rcases Nat.lt_or_ge r 6 with gr | gr
                · obtain rfl : r = 5 := by omega
                  exact wifs_1_9_5
                · rcases Nat.lt_or_ge r 7 with gr | gr
                  · obtain rfl : r = 6 := by omega
                    exact wifs_1_9_6
                  · obtain rfl : r = 7 := by omega
                    exact wifs_1_9_7
              · rcases Nat.lt_or_ge r 9 with gr | gr
                · obtain rfl : r = 8 := by omega
                  exact wifs_1_9_8
                · rcases Nat.lt_or_ge r 10 with gr | gr
                  · obtain rfl : r = 9 := by omega
                    exact wifs_1_9_9
                  · obtain rfl : r = 10 := by omega
                    exact wifs_1_9_10
          · obtain rfl : q = 10 := by omega
            rcases Nat.lt_or_ge r 5 with gr | gr
            · rcases Nat.lt_or_ge r 2 with gr | gr
              · rcases Nat.lt_or_ge r 1 with gr | gr
                · obtain rfl : r = 0 := by omega
                  exact wifs_1_10_0
                · obtain rfl : r = 1 := by omega
                  exact wifs_1_10_1
              · rcases Nat.lt_or_ge r 3 with gr | gr
                · obtain rfl : r = 2 := by omega
                  exact wifs_1_10_2
                · rcases Nat.lt_or_ge r 4 with gr | gr
                  · obtain rfl : r = 3 := by omega
                    exact wifs_1_10_3
                  · obtain rfl : r = 4 := by omega
                    exact wifs_1_10_4
            · rcases Nat.lt_or_ge r 8 with gr | gr
              · rcases Nat.lt_or_ge r 6 with gr | gr
                · obtain rfl : r = 5 := by omega
                  exact wifs_1_10_5
                · rcases Nat.lt_or_ge r 7 with gr | gr
                  · obtain rfl : r = 6 := by omega
                    exact wifs_1_10_6
                  · obtain rfl : r = 7 := by omega
                    exact wifs_1_10_7
              · rcases Nat.lt_or_ge r 9 with gr | gr
                · obtain rfl : r = 8 := by omega
                  exact wifs_1_10_8
                · rcases Nat.lt_or_ge r 10 with gr | gr
                  · obtain rfl : r = 9 := by omega
                    exact wifs_1_10_9
                  · obtain rfl : r = 10 := by omega
                    exact wifs_1_10_10
theorem wifs_any (a : Int) (b : Int) (c : Int) (w : World) : Calls Tryz.prog 4 #[.int .i64 a, .int .i64 b, .int .i64 c] w fun e w' => e = .returned (.bool true) ∧ Go.RowKit.Below w.heap.size w w' := by
  obtain ⟨p, hp, fp⟩ := z_cls _ (and_le a 4294967295 (by decide))
  have kp : (IV.mk 0 4294967295 (zLo p) (zHi p)).OK (rhoL [a, b, c]) := fp
  obtain ⟨q, hq, fq⟩ := w_cls _ (and_le b 4294967295 (by decide))
  have kq : (IV.mk 1 4294967295 (wLo q) (wHi q)).OK (rhoL [a, b, c]) := fq
  obtain ⟨r, hr, fr⟩ := w_cls _ (and_le c 4294967295 (by decide))
  have kr : (IV.mk 2 4294967295 (wLo r) (wHi r)).OK (rhoL [a, b, c]) := fr
  exact runM_calls awake_run (ρ := rhoL [a, b, c]) (ivs_cons kp (ivs_cons kq (ivs_cons kr ivs_nil))) all_nil (by decide) (wifs_all p q r (by omega) (by omega) (by omega)) (.cons (.int rfl) (.cons (.int rfl) (.cons (.int rfl) .nil))) w
end Go.Proofs.YteapooonilhaiaaGreatDoor
