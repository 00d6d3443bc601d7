/-
  WalkBlocks: what a call of it comes to.
-/
import Derived.Test.YteapooonilhaiaaGreatDoorLawWalkBlocksC0
import Derived.Test.YteapooonilhaiaaGreatDoorLawWalkBlocksC1
import Derived.Test.YteapooonilhaiaaGreatDoorLawWalkBlocksC2
import Derived.Test.YteapooonilhaiaaGreatDoorLawWalkBlocksC3
import Derived.Test.YteapooonilhaiaaGreatDoorLawWalkBlocksC4
import Derived.Test.YteapooonilhaiaaGreatDoorLawWalkBlocksC5
import Derived.Test.YteapooonilhaiaaGreatDoorLawWalkBlocksC6
import Derived.Test.YteapooonilhaiaaGreatDoorLawWalkBlocksC7
import Derived.Test.YteapooonilhaiaaGreatDoorLawWalkBlocksC8
import Derived.Test.YteapooonilhaiaaGreatDoorLawWalkBlocksC9
import Derived.Test.YteapooonilhaiaaGreatDoorLawWalkBlocksC10
import Derived.Test.YteapooonilhaiaaGreatDoorLawWalkBlocksC11
import Derived.Test.YteapooonilhaiaaGreatDoorLawWalkBlocksC12
import Derived.Test.YteapooonilhaiaaGreatDoorLawWalkBlocksC13
import Derived.Test.YteapooonilhaiaaGreatDoorLawWalkBlocksC14
namespace Go.Proofs.YteapooonilhaiaaGreatDoor
open Go Vx

theorem wblk_all (p : Nat) (q : Nat) (r : Nat) (hp : p < 11) (hq : q < 8) (hr : r < (1 + q)) : runM 5 [⟨0, 4294967295, wLo p, wHi p⟩] [.and 1 7 q, .rem 2 (1 + q) r] 3 [.int .i64 (.var 0), .int .i64 (.var 1), .int .i64 (.var 2)] = true := by
  rcases Nat.lt_or_ge p 5 with gp | gp
  · rcases Nat.lt_or_ge p 2 with gp | gp
    · rcases Nat.lt_or_ge p 1 with gp | gp
      · obtain rfl : p = 0 := by omega
        rcases Nat.lt_or_ge q 4 with gq | gq
        · rcases Nat.lt_or_ge q 2 with gq | gq
          · rcases Nat.lt_or_ge q 1 with gq | gq
            · obtain rfl : q = 0 := by omega
              obtain rfl : r = 0 := by omega
              exact wblk_0_0_0
            · obtain rfl : q = 1 := by omega
              rcases Nat.lt_or_ge r 1 with gr | gr
              · obtain rfl : r = 0 := by omega
                exact wblk_0_1_0
              · obtain rfl : r = 1 := by omega
                exact wblk_0_1_1
          · rcases Nat.lt_or_ge q 3 with gq | gq
            · obtain rfl : q = 2 := by omega
              rcases Nat.lt_or_ge r 1 with gr | gr
              · obtain rfl : r = 0 := by omega
                exact wblk_0_2_0
              · rcases Nat.lt_or_ge r 2 with gr | gr
                · obtain rfl : r = 1 := by omega
                  exact wblk_0_2_1
                · obtain rfl : r = 2 := by omega
                  exact wblk_0_2_2
            · obtain rfl : q = 3 := by omega
              rcases Nat.lt_or_ge r 2 with gr | gr
              · rcases Nat.lt_or_ge r 1 with gr | gr
                · obtain rfl : r = 0 := by omega
                  exact wblk_0_3_0
                · obtain rfl : r = 1 := by omega
                  exact wblk_0_3_1
              · rcases Nat.lt_or_ge r 3 with gr | gr
                · obtain rfl : r = 2 := by omega
                  exact wblk_0_3_2
                · obtain rfl : r = 3 := by omega
                  exact wblk_0_3_3
        · rcases Nat.lt_or_ge q 6 with gq | gq
          · rcases Nat.lt_or_ge q 5 with gq | gq
            · obtain rfl : q = 4 := by omega
              rcases Nat.lt_or_ge r 2 with gr | gr
              · rcases Nat.lt_or_ge r 1 with gr | gr
                · obtain rfl : r = 0 := by omega
                  exact wblk_0_4_0
                · obtain rfl : r = 1 := by omega
                  exact wblk_0_4_1
              · rcases Nat.lt_or_ge r 3 with gr | gr
                · obtain rfl : r = 2 := by omega
                  exact wblk_0_4_2
                · rcases Nat.lt_or_ge r 4 with gr | gr
                  · obtain rfl : r = 3 := by omega
                    exact wblk_0_4_3
                  · obtain rfl : r = 4 := by omega
                    exact wblk_0_4_4
            · obtain rfl : q = 5 := by omega
              rcases Nat.lt_or_ge r 3 with gr | gr
              · rcases Nat.lt_or_ge r 1 with gr | gr
                · obtain rfl : r = 0 := by omega
                  exact wblk_0_5_0
                · rcases Nat.lt_or_ge r 2 with gr | gr
                  · obtain rfl : r = 1 := by omega
                    exact wblk_0_5_1
                  · obtain rfl : r = 2 := by omega
                    exact wblk_0_5_2
              · rcases Nat.lt_or_ge r 4 with gr | gr
                · obtain rfl : r = 3 := by omega
                  exact wblk_0_5_3
                · rcases Nat.lt_or_ge r 5 with gr | gr
                  · obtain rfl : r = 4 := by omega
                    exact wblk_0_5_4
                  · obtain rfl : r = 5 := by omega
                    exact wblk_0_5_5
          · rcases Nat.lt_or_ge q 7 with gq | gq
            · obtain rfl : q = 6 := by omega
              rcases Nat.lt_or_ge r 3 with gr | gr
              · rcases Nat.lt_or_ge r 1 with gr | gr
                · obtain rfl : r = 0 := by omega
                  exact wblk_0_6_0
                · rcases Nat.lt_or_ge r 2 with gr | gr
                  · obtain rfl : r = 1 := by omega
                    exact wblk_0_6_1
                  · obtain rfl : r = 2 := by omega
                    exact wblk_0_6_2
              · rcases Nat.lt_or_ge r 5 with gr | gr
                · rcases Nat.lt_or_ge r 4 with gr | gr
                  · obtain rfl : r = 3 := by omega
                    exact wblk_0_6_3
                  · obtain rfl : r = 4 := by omega
                    exact wblk_0_6_4
                · rcases Nat.lt_or_ge r 6 with gr | gr
                  · obtain rfl : r = 5 := by omega
                    exact wblk_0_6_5
                  · obtain rfl : r = 6 := by omega
                    exact wblk_0_6_6
            · obtain rfl : q = 7 := by omega
              rcases Nat.lt_or_ge r 4 with gr | gr
              · rcases Nat.lt_or_ge r 2 with gr | gr
                · rcases Nat.lt_or_ge r 1 with gr | gr
                  · obtain rfl : r = 0 := by omega
                    exact wblk_0_7_0
                  · obtain rfl : r = 1 := by omega
                    exact wblk_0_7_1
                · rcases Nat.lt_or_ge r 3 with gr | gr
                  · obtain rfl : r = 2 := by omega
                    exact wblk_0_7_2
                  · obtain rfl : r = 3 := by omega
                    exact wblk_0_7_3
              · rcases Nat.lt_or_ge r 6 with gr | gr
                · rcases Nat.lt_or_ge r 5 with gr | gr
                  · obtain rfl : r = 4 := by omega
                    exact wblk_0_7_4
                  · obtain rfl : r = 5 := by omega
                    exact wblk_0_7_5
                · rcases Nat.lt_or_ge r 7 with gr | gr
                  · obtain rfl : r = 6 := by omega
                    exact wblk_0_7_6
                  · obtain rfl : r = 7 := by omega
                    exact wblk_0_7_7
      · obtain rfl : p = 1 := by omega
        rcases Nat.lt_or_ge q 4 with gq | gq
        · rcases Nat.lt_or_ge q 2 with gq | gq
          · rcases Nat.lt_or_ge q 1 with gq | gq
            · obtain rfl : q = 0 := by omega
              obtain rfl : r = 0 := by omega
              exact wblk_1_0_0
            · obtain rfl : q = 1 := by omega
              rcases Nat.lt_or_ge r 1 with gr | gr
              · obtain rfl : r = 0 := by omega
                exact wblk_1_1_0
              · obtain rfl : r = 1 := by omega
                exact wblk_1_1_1
          · rcases Nat.lt_or_ge q 3 with gq | gq
            · obtain rfl : q = 2 := by omega
              rcases Nat.lt_or_ge r 1 with gr | gr
              · obtain rfl : r = 0 := by omega
                exact wblk_1_2_0
              · rcases Nat.lt_or_ge r 2 with gr | gr
                · obtain rfl : r = 1 := by omega
                  exact wblk_1_2_1
                · obtain rfl : r = 2 := by omega
                  exact wblk_1_2_2
            · obtain rfl : q = 3 := by omega
              rcases Nat.lt_or_ge r 2 with gr | gr
              · rcases Nat.lt_or_ge r 1 with gr | gr
                · obtain rfl : r = 0 := by omega
                  exact wblk_1_3_0
                · obtain rfl : r = 1 := by omega
                  exact wblk_1_3_1
              · rcases Nat.lt_or_ge r 3 with gr | gr
                · obtain rfl : r = 2 := by omega
                  exact wblk_1_3_2
                · obtain rfl : r = 3 := by omega
                  exact wblk_1_3_3
        · rcases Nat.lt_or_ge q 6 with gq | gq
          · rcases Nat.lt_or_ge q 5 with gq | gq
            · obtain rfl : q = 4 := by omega
              rcases Nat.lt_or_ge r 2 with gr | gr
              · rcases Nat.lt_or_ge r 1 with gr | gr
                · obtain rfl : r = 0 := by omega
                  exact wblk_1_4_0
                · obtain rfl : r = 1 := by omega
                  exact wblk_1_4_1
              · rcases Nat.lt_or_ge r 3 with gr | gr
                · obtain rfl : r = 2 := by omega
                  exact wblk_1_4_2
                · rcases Nat.lt_or_ge r 4 with gr | gr
                  · obtain rfl : r = 3 := by omega
                    exact wblk_1_4_3
                  · obtain rfl : r = 4 := by omega
                    exact wblk_1_4_4
            · obtain rfl : q = 5 := by omega
              rcases Nat.lt_or_ge r 3 with gr | gr
              · rcases Nat.lt_or_ge r 1 with gr | gr
                · obtain rfl : r = 0 := by omega
                  exact wblk_1_5_0
                · rcases Nat.lt_or_ge r 2 with gr | gr
                  · obtain rfl : r = 1 := by omega
                    exact wblk_1_5_1
                  · obtain rfl : r = 2 := by omega
                    exact wblk_1_5_2
              · rcases Nat.lt_or_ge r 4 with gr | gr
                · obtain rfl : r = 3 := by omega
                  exact wblk_1_5_3
                · rcases Nat.lt_or_ge r 5 with gr | gr
                  · obtain rfl : r = 4 := by omega
                    exact wblk_1_5_4
                  · obtain rfl : r = 5 := by omega
                    exact wblk_1_5_5
          · rcases Nat.lt_or_ge q 7 with gq | gq
            · obtain rfl : q = 6 := by omega
              rcases Nat.lt_or_ge r 3 with gr | gr
              · rcases Nat.lt_or_ge r 1 with gr | gr
                · obtain rfl : r = 0 := by omega
                  exact wblk_1_6_0
                · rcases Nat.lt_or_ge r 2 with gr | gr
                  · obtain rfl : r = 1 := by omega
                    exact wblk_1_6_1
                  · obtain rfl : r = 2 := by omega
                    exact wblk_1_6_2
              · rcases Nat.lt_or_ge r 5 with gr | gr
                · rcases Nat.lt_or_ge r 4 with gr | gr
                  · obtain rfl : r = 3 := by omega
                    exact wblk_1_6_3
                  · obtain rfl : r = 4 := by omega
                    exact wblk_1_6_4
                · rcases Nat.lt_or_ge r 6 with gr | gr
                  · obtain rfl : r = 5 := by omega
                    exact wblk_1_6_5
                  · obtain rfl : r = 6 := by omega
                    exact wblk_1_6_6
            · obtain rfl : q = 7 := by omega
              rcases Nat.lt_or_ge r 4 with gr | gr
              · rcases Nat.lt_or_ge r 2 with gr | gr
                · rcases Nat.lt_or_ge r 1 with gr | gr
                  · obtain rfl : r = 0 := by omega
                    exact wblk_1_7_0
                  · obtain rfl : r = 1 := by omega
                    exact wblk_1_7_1
                · rcases Nat.lt_or_ge r 3 with gr | gr
                  · obtain rfl : r = 2 := by omega
                    exact wblk_1_7_2
                  · obtain rfl : r = 3 := by omega
                    exact wblk_1_7_3
              · rcases Nat.lt_or_ge r 6 with gr | gr
                · rcases Nat.lt_or_ge r 5 with gr | gr
                  · obtain rfl : r = 4 := by omega
                    exact wblk_1_7_4
                  · obtain rfl : r = 5 := by omega
                    exact wblk_1_7_5
                · rcases Nat.lt_or_ge r 7 with gr | gr
                  · obtain rfl : r = 6 := by omega
                    exact wblk_1_7_6
                  · obtain rfl : r = 7 := by omega
                    exact wblk_1_7_7
    · rcases Nat.lt_or_ge p 3 with gp | gp
      · obtain rfl : p = 2 := by omega
        rcases Nat.lt_or_ge q 4 with gq | gq
        · rcases Nat.lt_or_ge q 2 with gq | gq
          · rcases Nat.lt_or_ge q 1 with gq | gq
            · obtain rfl : q = 0 := by omega
              obtain rfl : r = 0 := by omega
              exact wblk_2_0_0
            · obtain rfl : q = 1 := by omega
              rcases Nat.lt_or_ge r 1 with gr | gr
              · obtain rfl : r = 0 := by omega
                exact wblk_2_1_0
              · obtain rfl : r = 1 := by omega
                exact wblk_2_1_1
          · rcases Nat.lt_or_ge q 3 with gq | gq
            · obtain rfl : q = 2 := by omega
              rcases Nat.lt_or_ge r 1 with gr | gr
              · obtain rfl : r = 0 := by omega
                exact wblk_2_2_0
              · rcases Nat.lt_or_ge r 2 with gr | gr
                · obtain rfl : r = 1 := by omega
                  exact wblk_2_2_1
                · obtain rfl : r = 2 := by omega
                  exact wblk_2_2_2
            · obtain rfl : q = 3 := by omega
              rcases Nat.lt_or_ge r 2 with gr | gr
              · rcases Nat.lt_or_ge r 1 with gr | gr
                · obtain rfl : r = 0 := by omega
                  exact wblk_2_3_0
                · obtain rfl : r = 1 := by omega
                  exact wblk_2_3_1
              · rcases Nat.lt_or_ge r 3 with gr | gr
                · obtain rfl : r = 2 := by omega
                  exact wblk_2_3_2
                · obtain rfl : r = 3 := by omega
                  exact wblk_2_3_3
        · rcases Nat.lt_or_ge q 6 with gq | gq
          · rcases Nat.lt_or_ge q 5 with gq | gq
            · obtain rfl : q = 4 := by omega
              rcases Nat.lt_or_ge r 2 with gr | gr
              · rcases Nat.lt_or_ge r 1 with gr | gr
                · obtain rfl : r = 0 := by omega
                  exact wblk_2_4_0
                · obtain rfl : r = 1 := by omega
                  exact wblk_2_4_1
              · rcases Nat.lt_or_ge r 3 with gr | gr
                · obtain rfl : r = 2 := by omega
                  exact wblk_2_4_2
                · rcases Nat.lt_or_ge r 4 with gr | gr
                  · obtain rfl : r = 3 := by omega
                    exact wblk_2_4_3
                  · obtain rfl : r = 4 := by omega
                    exact wblk_2_4_4
            · obtain rfl : q = 5 := by omega
              rcases Nat.lt_or_ge r 3 with gr | gr
              · rcases Nat.lt_or_ge r 1 with gr | gr
                · obtain rfl : r = 0 := by omega
                  exact wblk_2_5_0
                · rcases Nat.lt_or_ge r 2 with gr | gr
                  · obtain rfl : r = 1 := by omega
                    exact wblk_2_5_1
                  · obtain rfl : r = 2 := by omega
                    exact wblk_2_5_2
              · rcases Nat.lt_or_ge r 4 with gr | gr
                · obtain rfl : r = 3 := by omega
                  exact wblk_2_5_3
                · rcases Nat.lt_or_ge r 5 with gr | gr
                  · obtain rfl : r = 4 := by omega
                    exact wblk_2_5_4
                  · obtain rfl : r = 5 := by omega
                    exact wblk_2_5_5
          · rcases Nat.lt_or_ge q 7 with gq | gq
            · obtain rfl : q = 6 := by omega
              rcases Nat.lt_or_ge r 3 with gr | gr
              · rcases Nat.lt_or_ge r 1 with gr | gr
                · obtain rfl : r = 0 := by omega
                  exact wblk_2_6_0
                · rcases Nat.lt_or_ge r 2 with gr | gr
                  · obtain rfl : r = 1 := by omega
                    exact wblk_2_6_1
                  · obtain rfl : r = 2 := by omega
                    exact wblk_2_6_2
              · rcases Nat.lt_or_ge r 5 with gr | gr
                · rcases Nat.lt_or_ge r 4 with gr | gr
                  · obtain rfl : r = 3 := by omega
                    exact wblk_2_6_3
                  · obtain rfl : r = 4 := by omega
                    exact wblk_2_6_4
                · rcases Nat.lt_or_ge r 6 with gr | gr
                  · obtain rfl : r = 5 := by omega
                    exact wblk_2_6_5
                  · obtain rfl : r = 6 := by omega
                    exact wblk_2_6_6
            · obtain rfl : q = 7 := by omega
              rcases Nat.lt_or_ge r 4 with gr | gr
              · rcases Nat.lt_or_ge r 2 with gr | gr
                · rcases Nat.lt_or_ge r 1 with gr | gr
                  · obtain rfl : r = 0 := by omega
                    exact wblk_2_7_0
                  · obtain rfl : r = 1 := by omega
                    exact wblk_2_7_1
                · rcases Nat.lt_or_ge r 3 with gr | gr
                  · obtain rfl : r = 2 := by omega
                    exact wblk_2_7_2
                  · obtain rfl : r = 3 := by omega
                    exact wblk_2_7_3
              · rcases Nat.lt_or_ge r 6 with gr | gr
                · rcases Nat.lt_or_ge r 5 with gr | gr
                  · obtain rfl : r = 4 := by omega
                    exact wblk_2_7_4
                  · obtain rfl : r = 5 := by omega
                    exact wblk_2_7_5
                · rcases Nat.lt_or_ge r 7 with gr | gr
                  · obtain rfl : r = 6 := by omega
                    exact wblk_2_7_6
                  · obtain rfl : r = 7 := by omega
                    exact wblk_2_7_7
      · rcases Nat.lt_or_ge p 4 with gp | gp
        · obtain rfl : p = 3 := by omega
          rcases Nat.lt_or_ge q 4 with gq | gq
          · rcases Nat.lt_or_ge q 2 with gq | gq
            · rcases Nat.lt_or_ge q 1 with gq | gq
              · obtain rfl : q = 0 := by omega
                obtain rfl : r = 0 := by omega
                exact wblk_3_0_0
              · obtain rfl : q = 1 := by omega
                rcases Nat.lt_or_ge r 1 with gr | gr
                · obtain rfl : r = 0 := by omega
                  exact wblk_3_1_0
                · obtain rfl : r = 1 := by omega
                  exact wblk_3_1_1
            · rcases Nat.lt_or_ge q 3 with gq | gq
              · obtain rfl : q = 2 := by omega
                rcases Nat.lt_or_ge r 1 with gr | gr
                · obtain rfl : r = 0 := by omega
                  exact wblk_3_2_0
                · rcases Nat.lt_or_ge r 2 with gr | gr
                  · obtain rfl : r = 1 := by omega
                    exact wblk_3_2_1
                  · obtain rfl : r = 2 := by omega
                    exact wblk_3_2_2
              · obtain rfl : q = 3 := by omega
                rcases Nat.lt_or_ge r 2 with gr | gr
                · rcases Nat.lt_or_ge r 1 with gr | gr
                  · obtain rfl : r = 0 := by omega
                    exact wblk_3_3_0
                  · obtain rfl : r = 1 := by omega
                    exact wblk_3_3_1
                · rcases Nat.lt_or_ge r 3 with gr | gr
                  · obtain rfl : r = 2 := by omega
                    exact wblk_3_3_2
                  · obtain rfl : r = 3 := by omega
                    exact wblk_3_3_3
          · rcases Nat.lt_or_ge q 6 with gq | gq
            · rcases Nat.lt_or_ge q 5 with gq | gq
              · obtain rfl : q = 4 := by omega
                rcases Nat.lt_or_ge r 2 with gr | gr
                · rcases Nat.lt_or_ge r 1 with gr | gr
                  · obtain rfl : r = 0 := by omega
                    exact wblk_3_4_0
                  · obtain rfl : r = 1 := by omega
                    exact wblk_3_4_1
                · rcases Nat.lt_or_ge r 3 with gr | gr
                  · obtain rfl : r = 2 := by omega
                    exact wblk_3_4_2
                  · rcases Nat.lt_or_ge r 4 with gr | gr
                    · obtain rfl : r = 3 := by omega
                      exact wblk_3_4_3
                    · obtain rfl : r = 4 := by omega
                      exact wblk_3_4_4
              · obtain rfl : q = 5 := by omega
                rcases Nat.lt_or_ge r 3 with gr | gr
                · rcases Nat.lt_or_ge r 1 with gr | gr
                  · obtain rfl : r = 0 := by omega
                    exact wblk_3_5_0
                  · rcases Nat.lt_or_ge r 2 with gr | gr
                    · obtain rfl : r = 1 := by omega
                      exact wblk_3_5_1
                    · obtain rfl : r = 2 := by omega
                      exact wblk_3_5_2
                · rcases Nat.lt_or_ge r 4 with gr | gr
                  · obtain rfl : r = 3 := by omega
                    exact wblk_3_5_3
                  · rcases Nat.lt_or_ge r 5 with gr | gr
                    · obtain rfl : r = 4 := by omega
                      exact wblk_3_5_4
                    · obtain rfl : r = 5 := by omega
                      exact wblk_3_5_5
            · rcases Nat.lt_or_ge q 7 with gq | gq
              · obtain rfl : q = 6 := by omega
                rcases Nat.lt_or_ge r 3 with gr | gr
                · rcases Nat.lt_or_ge r 1 with gr | gr
                  · obtain rfl : r = 0 := by omega
                    exact wblk_3_6_0
                  · rcases Nat.lt_or_ge r 2 with gr | gr
                    · obtain rfl : r = 1 := by omega
                      exact wblk_3_6_1
                    · obtain rfl : r = 2 := by omega
                      exact wblk_3_6_2
                · rcases Nat.lt_or_ge r 5 with gr | gr
                  · rcases Nat.lt_or_ge r 4 with gr | gr
                    · obtain rfl : r = 3 := by omega
                      exact wblk_3_6_3
                    · obtain rfl : r = 4 := by omega
                      exact wblk_3_6_4
                  · rcases Nat.lt_or_ge r 6 with gr | gr
                    · obtain rfl : r = 5 := by omega
                      exact wblk_3_6_5
                    · obtain rfl : r = 6 := by omega
                      exact wblk_3_6_6
              · obtain rfl : q = 7 := by omega
                rcases Nat.lt_or_ge r 4 with gr | gr
                · rcases Nat.lt_or_ge r 2 with gr | gr
                  · rcases Nat.lt_or_ge r 1 with gr | gr
                    · obtain rfl : r = 0 := by omega
                      exact wblk_3_7_0
                    · obtain rfl : r = 1 := by omega
                      exact wblk_3_7_1
                  · rcases Nat.lt_or_ge r 3 with gr | gr
                    · obtain rfl : r = 2 := by omega
                      exact wblk_3_7_2
                    · obtain rfl : r = 3 := by omega
                      exact wblk_3_7_3
                · rcases Nat.lt_or_ge r 6 with gr | gr
                  · rcases Nat.lt_or_ge r 5 with gr | gr
                    · obtain rfl : r = 4 := by omega
                      exact wblk_3_7_4
                    · obtain rfl : r = 5 := by omega
                      exact wblk_3_7_5
                  · rcases Nat.lt_or_ge r 7 with gr | gr
                    · obtain rfl : r = 6 := by omega
                      exact wblk_3_7_6
                    · obtain rfl : r = 7 := by omega
                      exact wblk_3_7_7
        · obtain rfl : p = 4 := by omega
          rcases Nat.lt_or_ge q 4 with gq | gq
          · rcases Nat.lt_or_ge q 2 with gq | gq
            · rcases Nat.lt_or_ge q 1 with gq | gq
              · obtain rfl : q = 0 := by omega
                obtain rfl : r = 0 := by omega
                exact wblk_4_0_0
              · obtain rfl : q = 1 := by omega
                rcases Nat.lt_or_ge r 1 with gr | gr
                · obtain rfl : r = 0 := by omega
                  exact wblk_4_1_0
                · obtain rfl : r = 1 := by omega
                  exact wblk_4_1_1
            · rcases Nat.lt_or_ge q 3 with gq | gq
              · obtain rfl : q = 2 := by omega
                rcases Nat.lt_or_ge r 1 with gr | gr
                · obtain rfl : r = 0 := by omega
                  exact wblk_4_2_0
                · rcases Nat.lt_or_ge r 2 with gr | gr
                  · obtain rfl : r = 1 := by omega
                    exact wblk_4_2_1
                  · obtain rfl : r = 2 := by omega
                    exact wblk_4_2_2
              · obtain rfl : q = 3 := by omega
                rcases Nat.lt_or_ge r 2 with gr | gr
                · rcases Nat.lt_or_ge r 1 with gr | gr
                  · obtain rfl : r = 0 := by omega
                    exact wblk_4_3_0
                  · obtain rfl : r = 1 := by omega
                    exact wblk_4_3_1
                · rcases Nat.lt_or_ge r 3 with gr | gr
                  · obtain rfl : r = 2 := by omega
                    exact wblk_4_3_2
                  · obtain rfl : r = 3 := by omega
                    exact wblk_4_3_3
          · rcases Nat.lt_or_ge q 6 with gq | gq
            · rcases Nat.lt_or_ge q 5 with gq | gq
              · obtain rfl : q = 4 := by omega
                rcases Nat.lt_or_ge r 2 with gr | gr
                · rcases Nat.lt_or_ge r 1 with gr | gr
                  · obtain rfl : r = 0 := by omega
                    exact wblk_4_4_0
                  · obtain rfl : r = 1 := by omega
                    exact wblk_4_4_1
                · rcases Nat.lt_or_ge r 3 with gr | gr
                  · obtain rfl : r = 2 := by omega
                    exact wblk_4_4_2
                  · rcases Nat.lt_or_ge r 4 with gr | gr
                    · obtain rfl : r = 3 := by omega
                      exact wblk_4_4_3
                    · obtain rfl : r = 4 := by omega
                      exact wblk_4_4_4
              · obtain rfl : q = 5 := by omega
                rcases Nat.lt_or_ge r 3 with gr | gr
                · rcases Nat.lt_or_ge r 1 with gr | gr
                  · obtain rfl : r = 0 := by omega
                    exact wblk_4_5_0
                  · rcases Nat.lt_or_ge r 2 with gr | gr
                    · obtain rfl : r = 1 := by omega
                      exact wblk_4_5_1
                    · obtain rfl : r = 2 := by omega
                      exact wblk_4_5_2
                · rcases Nat.lt_or_ge r 4 with gr | gr
                  · obtain rfl : r = 3 := by omega
                    exact wblk_4_5_3
                  · rcases Nat.lt_or_ge r 5 with gr | gr
                    · obtain rfl : r = 4 := by omega
                      exact wblk_4_5_4
                    · obtain rfl : r = 5 := by omega
                      exact wblk_4_5_5
            · rcases Nat.lt_or_ge q 7 with gq | gq
              · obtain rfl : q = 6 := by omega
                rcases Nat.lt_or_ge r 3 with gr | gr
                · rcases Nat.lt_or_ge r 1 with gr | gr
                  · obtain rfl : r = 0 := by omega
                    exact wblk_4_6_0
                  · rcases Nat.lt_or_ge r 2 with gr | gr
                    · obtain rfl : r = 1 := by omega
                      exact wblk_4_6_1
                    · obtain rfl : r = 2 := by omega
                      exact wblk_4_6_2
                · rcases Nat.lt_or_ge r 5 with gr | gr
                  · rcases Nat.lt_or_ge r 4 with gr | gr
                    · obtain rfl : r = 3 := by omega
                      exact wblk_4_6_3
                    · obtain rfl : r = 4 := by omega
                      exact wblk_4_6_4
                  · rcases Nat.lt_or_ge r 6 with gr | gr
                    · obtain rfl : r = 5 := by omega
                      exact wblk_4_6_5
                    · obtain rfl : r = 6 := by omega
                      exact wblk_4_6_6
              · obtain rfl : q = 7 := by omega
                rcases Nat.lt_or_ge r 4 with gr | gr
                · rcases Nat.lt_or_ge r 2 with gr | gr
                  · rcases Nat.lt_or_ge r 1 with gr | gr
                    · obtain rfl : r = 0 := by omega
                      exact wblk_4_7_0
                    · obtain rfl : r = 1 := by omega
                      exact wblk_4_7_1
                  · rcases Nat.lt_or_ge r 3 with gr | gr
                    · obtain rfl : r = 2 := by omega
                      exact wblk_4_7_2
                    · obtain rfl : r = 3 := by omega
                      exact wblk_4_7_3
                · rcases Nat.lt_or_ge r 6 with gr | gr
                  · rcases Nat.lt_or_ge r 5 with gr | gr
                    · obtain rfl : r = 4 := by omega
                      exact wblk_4_7_4
                    · obtain rfl : r = 5 := by omega
                      exact wblk_4_7_5
                  · rcases Nat.lt_or_ge r 7 with gr | gr
                    · obtain rfl : r = 6 := by omega
                      exact wblk_4_7_6
                    · obtain rfl : r = 7 := by omega
                      exact wblk_4_7_7
  · rcases Nat.lt_or_ge p 8 with gp | gp
    · rcases Nat.lt_or_ge p 6 with gp | gp
      · obtain rfl : p = 5 := by omega
        rcases Nat.lt_or_ge q 4 with gq | gq
        · rcases Nat.lt_or_ge q 2 with gq | gq
          · rcases Nat.lt_or_ge q 1 with gq | gq
            · obtain rfl : q = 0 := by omega
              obtain rfl : r = 0 := by omega
              exact wblk_5_0_0
            · obtain rfl : q = 1 := by omega
              rcases Nat.lt_or_ge r 1 with gr | gr
              · obtain rfl : r = 0 := by omega
                exact wblk_5_1_0
              · obtain rfl : r = 1 := by omega
                exact wblk_5_1_1
          · rcases Nat.lt_or_ge q 3 with gq | gq
            · obtain rfl : q = 2 := by omega
              rcases Nat.lt_or_ge r 1 with gr | gr
              · obtain rfl : r = 0 := by omega
                exact wblk_5_2_0
              · rcases Nat.lt_or_ge r 2 with gr | gr
                · obtain rfl : r = 1 := by omega
                  exact wblk_5_2_1
                · obtain rfl : r = 2 := by omega
                  exact wblk_5_2_2
            · obtain rfl : q = 3 := by omega
              rcases Nat.lt_or_ge r 2 with gr | gr
              · rcases Nat.lt_or_ge r 1 with gr | gr
                · obtain rfl : r = 0 := by omega
                  exact wblk_5_3_0
                · obtain rfl : r = 1 := by omega
                  exact wblk_5_3_1
              · rcases Nat.lt_or_ge r 3 with gr | gr
                · obtain rfl : r = 2 := by omega
                  exact wblk_5_3_2
                · obtain rfl : r = 3 := by omega
                  exact wblk_5_3_3
        · rcases Nat.lt_or_ge q 6 with gq | gq
          · rcases Nat.lt_or_ge q 5 with gq | gq
            · obtain rfl : q = 4 := by omega
              rcases Nat.lt_or_ge r 2 with gr | gr
              · rcases Nat.lt_or_ge r 1 with gr | gr
                · obtain rfl : r = 0 := by omega
                  exact wblk_5_4_0
                · obtain rfl : r = 1 := by omega
                  exact wblk_5_4_1
              · rcases Nat.lt_or_ge r 3 with gr | gr
                · obtain rfl : r = 2 := by omega
                  exact wblk_5_4_2
                · rcases Nat.lt_or_ge r 4 with gr | gr
                  · obtain rfl : r = 3 := by omega
                    exact wblk_5_4_3
                  · obtain rfl : r = 4 := by omega
                    exact wblk_5_4_4
            · obtain rfl : q = 5 := by omega
              rcases Nat.lt_or_ge r 3 with gr | gr
              · rcases Nat.lt_or_ge r 1 with gr | gr
                · obtain rfl : r = 0 := by omega
                  exact wblk_5_5_0
                · rcases Nat.lt_or_ge r 2 with gr | gr
                  · obtain rfl : r = 1 := by omega
                    exact wblk_5_5_1
                  · obtain rfl : r = 2 := by omega
                    exact wblk_5_5_2
              · rcases Nat.lt_or_ge r 4 with gr | gr
                · obtain rfl : r = 3 := by omega
                  exact wblk_5_5_3
                · rcases Nat.lt_or_ge r 5 with gr | gr
                  · obtain rfl : r = 4 := by omega
                    exact wblk_5_5_4
                  · obtain rfl : r = 5 := by omega
                    exact wblk_5_5_5
          · rcases Nat.lt_or_ge q 7 with gq | gq
            · obtain rfl : q = 6 := by omega
              rcases Nat.lt_or_ge r 3 with gr | gr
              · rcases Nat.lt_or_ge r 1 with gr | gr
                · obtain rfl : r = 0 := by omega
                  exact wblk_5_6_0
                · rcases Nat.lt_or_ge r 2 with gr | gr
                  · obtain rfl : r = 1 := by omega
                    exact wblk_5_6_1
                  · obtain rfl : r = 2 := by omega
                    exact wblk_5_6_2
              · rcases Nat.lt_or_ge r 5 with gr | gr
                · rcases Nat.lt_or_ge r 4 with gr | gr
                  · obtain rfl : r = 3 := by omega
                    exact wblk_5_6_3
                  · obtain rfl : r = 4 := by omega
                    exact wblk_5_6_4
                · rcases Nat.lt_or_ge r 6 with gr | gr
                  · obtain rfl : r = 5 := by omega
                    exact wblk_5_6_5
                  · obtain rfl : r = 6 := by omega
                    exact wblk_5_6_6
            · obtain rfl : q = 7 := by omega
              rcases Nat.lt_or_ge r 4 with gr | gr
              · rcases Nat.lt_or_ge r 2 with gr | gr
                · rcases Nat.lt_or_ge r 1 with gr | gr
                  · obtain rfl : r = 0 := by omega
                    exact wblk_5_7_0
                  · obtain rfl : r = 1 := by omega
                    exact wblk_5_7_1
                · rcases Nat.lt_or_ge r 3 with gr | gr
                  · obtain rfl : r = 2 := by omega
                    exact wblk_5_7_2
                  · obtain rfl : r = 3 := by omega
                    exact wblk_5_7_3
              · rcases Nat.lt_or_ge r 6 with gr | gr
                · rcases Nat.lt_or_ge r 5 with gr | gr
                  · obtain rfl : r = 4 := by omega
                    exact wblk_5_7_4
                  · obtain rfl : r = 5 := by omega
                    exact wblk_5_7_5
                · rcases Nat.lt_or_ge r 7 with gr | gr
                  · obtain rfl : r = 6 := by omega
                    exact wblk_5_7_6
                  · obtain rfl : r = 7 := by omega
                    exact wblk_5_7_7
      · rcases Nat.lt_or_ge p 7 with gp | gp
        · obtain rfl : p = 6 := by omega
          rcases Nat.lt_or_ge q 4 with gq | gq
          · rcases Nat.lt_or_ge q 2 with gq | gq
            · rcases Nat.lt_or_ge q 1 with gq | gq
              · obtain rfl : q = 0 := by omega
                obtain rfl : r = 0 := by omega
                exact wblk_6_0_0
              · obtain rfl : q = 1 := by omega
                rcases Nat.lt_or_ge r 1 with gr | gr
                · obtain rfl : r = 0 := by omega
                  exact wblk_6_1_0
                · obtain rfl : r = 1 := by omega
                  exact wblk_6_1_1
            · rcases Nat.lt_or_ge q 3 with gq | gq
              · obtain rfl : q = 2 := by omega
                rcases Nat.lt_or_ge r 1 with gr | gr
                · obtain rfl : r = 0 := by omega
                  exact wblk_6_2_0
                · rcases Nat.lt_or_ge r 2 with gr | gr
                  · obtain rfl : r = 1 := by omega
                    exact wblk_6_2_1
                  · obtain rfl : r = 2 := by omega
                    exact wblk_6_2_2
              · obtain rfl : q = 3 := by omega
                rcases Nat.lt_or_ge r 2 with gr | gr
                · rcases Nat.lt_or_ge r 1 with gr | gr
                  · obtain rfl : r = 0 := by omega
                    exact wblk_6_3_0
                  · obtain rfl : r = 1 := by omega
                    exact wblk_6_3_1
                · rcases Nat.lt_or_ge r 3 with gr | gr
                  · obtain rfl : r = 2 := by omega
                    exact wblk_6_3_2
                  · obtain rfl : r = 3 := by omega
                    exact wblk_6_3_3
          · rcases Nat.lt_or_ge q 6 with gq | gq
            · rcases Nat.lt_or_ge q 5 with gq | gq
              · obtain rfl : q = 4 := by omega
                rcases Nat.lt_or_ge r 2 with gr | gr
                · rcases Nat.lt_or_ge r 1 with gr | gr
                  · obtain rfl : r = 0 := by omega
                    exact wblk_6_4_0
                  · obtain rfl : r = 1 := by omega
                    exact wblk_6_4_1
                · rcases Nat.lt_or_ge r 3 with gr | gr
                  · obtain rfl : r = 2 := by omega
                    exact wblk_6_4_2
                  · rcases Nat.lt_or_ge r 4 with gr | gr
                    · obtain rfl : r = 3 := by omega
                      exact wblk_6_4_3
                    · obtain rfl : r = 4 := by omega
                      exact wblk_6_4_4
              · obtain rfl : q = 5 := by omega
                rcases Nat.lt_or_ge r 3 with gr | gr
                · rcases Nat.lt_or_ge r 1 with gr | gr
                  · obtain rfl : r = 0 := by omega
                    exact wblk_6_5_0
                  · rcases Nat.lt_or_ge r 2 with gr | gr
                    · obtain rfl : r = 1 := by omega
                      exact wblk_6_5_1
                    · obtain rfl : r = 2 := by omega
                      exact wblk_6_5_2
                · rcases Nat.lt_or_ge r 4 with gr | gr
                  · obtain rfl : r = 3 := by omega
                    exact wblk_6_5_3
                  · rcases Nat.lt_or_ge r 5 with gr | gr
                    · obtain rfl : r = 4 := by omega
                      exact wblk_6_5_4
                    · obtain rfl : r = 5 := by omega
                      exact wblk_6_5_5
            · rcases Nat.lt_or_ge q 7 with gq | gq
              · obtain rfl : q = 6 := by omega
                rcases Nat.lt_or_ge r 3 with gr | gr
                · rcases Nat.lt_or_ge r 1 with gr | gr
                  · obtain rfl : r = 0 := by omega
                    exact wblk_6_6_0
                  · rcases Nat.lt_or_ge r 2 with gr | gr
                    · obtain rfl : r = 1 := by omega
                      exact wblk_6_6_1
                    · obtain rfl : r = 2 := by omega
                      exact wblk_6_6_2
                · rcases Nat.lt_or_ge r 5 with gr | gr
                  · rcases Nat.lt_or_ge r 4 with gr | gr
                    · obtain rfl : r = 3 := by omega
                      exact wblk_6_6_3
                    · obtain rfl : r = 4 := by omega
                      exact wblk_6_6_4
                  · rcases Nat.lt_or_ge r 6 with gr | gr
                    · obtain rfl : r = 5 := by omega
                      exact wblk_6_6_5
                    · obtain rfl : r = 6 := by omega
                      exact wblk_6_6_6
              · obtain rfl : q = 7 := by omega
                rcases Nat.lt_or_ge r 4 with gr | gr
                · rcases Nat.lt_or_ge r 2 with gr | gr
                  · rcases Nat.lt_or_ge r 1 with gr | gr
                    · obtain rfl : r = 0 := by omega
                      exact wblk_6_7_0
                    · obtain rfl : r = 1 := by omega
                      exact wblk_6_7_1
                  · rcases Nat.lt_or_ge r 3 with gr | gr
                    · obtain rfl : r = 2 := by omega
                      exact wblk_6_7_2
                    · obtain rfl : r = 3 := by omega
                      exact wblk_6_7_3
                · rcases Nat.lt_or_ge r 6 with gr | gr
                  · rcases Nat.lt_or_ge r 5 with gr | gr
                    · obtain rfl : r = 4 := by omega
                      exact wblk_6_7_4
                    · obtain rfl : r = 5 := by omega
                      exact wblk_6_7_5
                  · rcases Nat.lt_or_ge r 7 with gr | gr
                    · obtain rfl : r = 6 := by omega
                      exact wblk_6_7_6
                    · obtain rfl : r = 7 := by omega
                      exact wblk_6_7_7
        · obtain rfl : p = 7 := by omega
          rcases Nat.lt_or_ge q 4 with gq | gq
          · rcases Nat.lt_or_ge q 2 with gq | gq
            · rcases Nat.lt_or_ge q 1 with gq | gq
              · obtain rfl : q = 0 := by omega
                obtain rfl : r = 0 := by omega
                exact wblk_7_0_0
              · obtain rfl : q = 1 := by omega
                rcases Nat.lt_or_ge r 1 with gr | gr
                · obtain rfl : r = 0 := by omega
                  exact wblk_7_1_0
                · obtain rfl : r = 1 := by omega
                  exact wblk_7_1_1
            · rcases Nat.lt_or_ge q 3 with gq | gq
              · obtain rfl : q = 2 := by omega
                rcases Nat.lt_or_ge r 1 with gr | gr
                · obtain rfl : r = 0 := by omega
                  exact wblk_7_2_0
                · rcases Nat.lt_or_ge r 2 with gr | gr
                  · obtain rfl : r = 1 := by omega
                    exact wblk_7_2_1
                  · obtain rfl : r = 2 := by omega
                    exact wblk_7_2_2
              · obtain rfl : q = 3 := by omega
                rcases Nat.lt_or_ge r 2 with gr | gr
                · rcases Nat.lt_or_ge r 1 with gr | gr
                  · obtain rfl : r = 0 := by omega
                    exact wblk_7_3_0
                  · obtain rfl : r = 1 := by omega
                    exact wblk_7_3_1
                · rcases Nat.lt_or_ge r 3 with gr | gr
                  · obtain rfl : r = 2 := by omega
                    exact wblk_7_3_2
                  · obtain rfl : r = 3 := by omega
                    exact wblk_7_3_3
          · rcases Nat.lt_or_ge q 6 with gq | gq
            · rcases Nat.lt_or_ge q 5 with gq | gq
              · obtain rfl : q = 4 := by omega
                rcases Nat.lt_or_ge r 2 with gr | gr
                · rcases Nat.lt_or_ge r 1 with gr | gr
                  · obtain rfl : r = 0 := by omega
                    exact wblk_7_4_0
                  · obtain rfl : r = 1 := by omega
                    exact wblk_7_4_1
                · rcases Nat.lt_or_ge r 3 with gr | gr
                  · obtain rfl : r = 2 := by omega
                    exact wblk_7_4_2
                  · rcases Nat.lt_or_ge r 4 with gr | gr
                    · obtain rfl : r = 3 := by omega
                      exact wblk_7_4_3
                    · obtain rfl : r = 4 := by omega
                      exact wblk_7_4_4
              · obtain rfl : q = 5 := by omega
                rcases Nat.lt_or_ge r 3 with gr | gr
                · rcases Nat.lt_or_ge r 1 with gr | gr
                  · obtain rfl : r = 0 := by omega
                    exact wblk_7_5_0
                  · rcases Nat.lt_or_ge r 2 with gr | gr
                    · obtain rfl : r = 1 := by omega
                      exact wblk_7_5_1
                    · obtain rfl : r = 2 := by omega
                      exact wblk_7_5_2
                · rcases Nat.lt_or_ge r 4 with gr | gr
                  · obtain rfl : r = 3 := by omega
                    exact wblk_7_5_3
                  · rcases Nat.lt_or_ge r 5 with gr | gr
                    · obtain rfl : r = 4 := by omega
                      exact wblk_7_5_4
                    · obtain rfl : r = 5 := by omega
                      exact wblk_7_5_5
            · rcases Nat.lt_or_ge q 7 with gq | gq
              · obtain rfl : q = 6 := by omega
                rcases Nat.lt_or_ge r 3 with gr | gr
                · rcases Nat.lt_or_ge r 1 with gr | gr
                  · obtain rfl : r = 0 := by omega
                    exact wblk_7_6_0
                  · rcases Nat.lt_or_ge r 2 with gr | gr
                    · obtain rfl : r = 1 := by omega
                      exact wblk_7_6_1
                    · obtain rfl : r = 2 := by omega
                      exact wblk_7_6_2
                · rcases Nat.lt_or_ge r 5 with gr | gr
                  · rcases Nat.lt_or_ge r 4 with gr | gr
                    · obtain rfl : r = 3 := by omega
                      exact wblk_7_6_3
                    · obtain rfl : r = 4 := by omega
                      exact wblk_7_6_4
                  · rcases Nat.lt_or_ge r 6 with gr | gr
                    · obtain rfl : r = 5 := by omega
                      exact wblk_7_6_5
                    · obtain rfl : r = 6 := by omega
                      exact wblk_7_6_6
              · obtain rfl : q = 7 := by omega
                rcases Nat.lt_or_ge r 4 with gr | gr
                · rcases Nat.lt_or_ge r 2 with gr | gr
                  · rcases Nat.lt_or_ge r 1 with gr | gr
                    · obtain rfl : r = 0 := by omega
                      exact wblk_7_7_0
                    · obtain rfl : r = 1 := by omega
                      exact wblk_7_7_1
                  · rcases Nat.lt_or_ge r 3 with gr | gr
                    · obtain rfl : r = 2 := by omega
                      exact wblk_7_7_2
                    · obtain rfl : r = 3 := by omega
                      exact wblk_7_7_3
                · rcases Nat.lt_or_ge r 6 with gr | gr
                  · rcases Nat.lt_or_ge r 5 with gr | gr
                    · obtain rfl : r = 4 := by omega
                      exact wblk_7_7_4
                    · obtain rfl : r = 5 := by omega
                      exact wblk_7_7_5
                  · rcases Nat.lt_or_ge r 7 with gr | gr
                    · obtain rfl : r = 6 := by omega
                      exact wblk_7_7_6
                    · obtain rfl : r = 7 := by omega
                      exact wblk_7_7_7
    · rcases Nat.lt_or_ge p 9 with gp | gp
      · obtain rfl : p = 8 := by omega
        rcases Nat.lt_or_ge q 4 with gq | gq
        · rcases Nat.lt_or_ge q 2 with gq | gq
          · rcases Nat.lt_or_ge q 1 with gq | gq
            · obtain rfl : q = 0 := by omega
              obtain rfl : r = 0 := by omega
              exact wblk_8_0_0
            · obtain rfl : q = 1 := by omega
              rcases Nat.lt_or_ge r 1 with gr | gr
              · obtain rfl : r = 0 := by omega
                exact wblk_8_1_0
              · obtain rfl : r = 1 := by omega
                exact wblk_8_1_1
          · rcases Nat.lt_or_ge q 3 with gq | gq
            · obtain rfl : q = 2 := by omega
              rcases Nat.lt_or_ge r 1 with gr | gr
              · obtain rfl : r = 0 := by omega
                exact wblk_8_2_0
              · rcases Nat.lt_or_ge r 2 with gr | gr
                · obtain rfl : r = 1 := by omega
                  exact wblk_8_2_1
                · obtain rfl : r = 2 := by omega
                  exact wblk_8_2_2
            · obtain rfl : q = 3 := by omega
              rcases Nat.lt_or_ge r 2 with gr | gr
              · rcases Nat.lt_or_ge r 1 with gr | gr
                · obtain rfl : r = 0 := by omega
                  exact wblk_8_3_0
                · obtain rfl : r = 1 := by omega
                  exact wblk_8_3_1
              · rcases Nat.lt_or_ge r 3 with gr | gr
                · obtain rfl : r = 2 := by omega
                  exact wblk_8_3_2
                · obtain rfl : r = 3 := by omega
                  exact wblk_8_3_3
        · rcases Nat.lt_or_ge q 6 with gq | gq
          · rcases Nat.lt_or_ge q 5 with gq | gq
            · obtain rfl : q = 4 := by omega
              rcases Nat.lt_or_ge r 2 with gr | gr
              · rcases Nat.lt_or_ge r 1 with gr | gr
                · obtain rfl : r = 0 := by omega
                  exact wblk_8_4_0
                · obtain rfl : r = 1 := by omega
                  exact wblk_8_4_1
              · rcases Nat.lt_or_ge r 3 with gr | gr
                · obtain rfl : r = 2 := by omega
                  exact wblk_8_4_2
                · rcases Nat.lt_or_ge r 4 with gr | gr
                  · obtain rfl : r = 3 := by omega
                    exact wblk_8_4_3
                  · obtain rfl : r = 4 := by omega
                    exact wblk_8_4_4
            · obtain rfl : q = 5 := by omega
              rcases Nat.lt_or_ge r 3 with gr | gr
              · rcases Nat.lt_or_ge r 1 with gr | gr
                · obtain rfl : r = 0 := by omega
                  exact wblk_8_5_0
                · rcases Nat.lt_or_ge r 2 with gr | gr
                  · obtain rfl : r = 1 := by omega
                    exact wblk_8_5_1
                  · obtain rfl : r = 2 := by omega
                    exact wblk_8_5_2
              · rcases Nat.lt_or_ge r 4 with gr | gr
                · obtain rfl : r = 3 := by omega
                  exact wblk_8_5_3
                · rcases Nat.lt_or_ge r 5 with gr | gr
                  · obtain rfl : r = 4 := by omega
                    exact wblk_8_5_4
                  · obtain rfl : r = 5 := by omega
                    exact wblk_8_5_5
          · rcases Nat.lt_or_ge q 7 with gq | gq
            · obtain rfl : q = 6 := by omega
              rcases Nat.lt_or_ge r 3 with gr | gr
              · rcases Nat.lt_or_ge r 1 with gr | gr
                · obtain rfl : r = 0 := by omega
                  exact wblk_8_6_0
                · rcases Nat.lt_or_ge r 2 with gr | gr
                  · obtain rfl : r = 1 := by omega
                    exact wblk_8_6_1
                  · obtain rfl : r = 2 := by omega
                    exact wblk_8_6_2
              · rcases Nat.lt_or_ge r 5 with gr | gr
                · rcases Nat.lt_or_ge r 4 with gr | gr
                  · obtain rfl : r = 3 := by omega
                    exact wblk_8_6_3
                  · obtain rfl : r = 4 := by omega
                    exact wblk_8_6_4
                · rcases Nat.lt_or_ge r 6 with gr | gr
                  · obtain rfl : r = 5 := by omega
                    exact wblk_8_6_5
                  · obtain rfl : r = 6 := by omega
                    exact wblk_8_6_6
            · obtain rfl : q = 7 := by omega
              rcases Nat.lt_or_ge r 4 with gr | gr
              · rcases Nat.lt_or_ge r 2 with gr | gr
                · rcases Nat.lt_or_ge r 1 with gr | gr
                  · obtain rfl : r = 0 := by omega
                    exact wblk_8_7_0
                  · obtain rfl : r = 1 := by omega
                    exact wblk_8_7_1
                · rcases Nat.lt_or_ge r 3 with gr | gr
                  · obtain rfl : r = 2 := by omega
                    exact wblk_8_7_2
                  · obtain rfl : r = 3 := by omega
                    exact wblk_8_7_3
              · rcases Nat.lt_or_ge r 6 with gr | gr
                · rcases Nat.lt_or_ge r 5 with gr | gr
                  · obtain rfl : r = 4 := by omega
                    exact wblk_8_7_4
                  · obtain rfl : r = 5 := by omega
                    exact wblk_8_7_5
                · rcases Nat.lt_or_ge r 7 with gr | gr
                  · obtain rfl : r = 6 := by omega
                    exact wblk_8_7_6
                  · obtain rfl : r = 7 := by omega
                    exact wblk_8_7_7
      · rcases Nat.lt_or_ge p 10 with gp | gp
        · obtain rfl : p = 9 := by omega
          rcases Nat.lt_or_ge q 4 with gq | gq
          · rcases Nat.lt_or_ge q 2 with gq | gq
            · rcases Nat.lt_or_ge q 1 with gq | gq
              · obtain rfl : q = 0 := by omega
                obtain rfl : r = 0 := by omega
                exact wblk_9_0_0
              · obtain rfl : q = 1 := by omega
                rcases Nat.lt_or_ge r 1 with gr | gr
                · obtain rfl : r = 0 := by omega
                  exact wblk_9_1_0
                · obtain rfl : r = 1 := by omega
                  exact wblk_9_1_1
            · rcases Nat.lt_or_ge q 3 with gq | gq
              · obtain rfl : q = 2 := by omega
                rcases Nat.lt_or_ge r 1 with gr | gr
                · obtain rfl : r = 0 := by omega
                  exact wblk_9_2_0
                · rcases Nat.lt_or_ge r 2 with gr | gr
                  · obtain rfl : r = 1 := by omega
                    exact wblk_9_2_1
                  · obtain rfl : r = 2 := by omega
                    exact wblk_9_2_2
              · obtain rfl : q = 3 := by omega
                rcases Nat.lt_or_ge r 2 with gr | gr
                · rcases Nat.lt_or_ge r 1 with gr | gr
                  · obtain rfl : r = 0 := by omega
                    exact wblk_9_3_0
                  · obtain rfl : r = 1 := by omega
                    exact wblk_9_3_1
                · rcases Nat.lt_or_ge r 3 with gr | gr
                  · obtain rfl : r = 2 := by omega
                    exact wblk_9_3_2
                  · obtain rfl : r = 3 := by omega
                    exact wblk_9_3_3
          · rcases Nat.lt_or_ge q 6 with gq | gq
            · rcases Nat.lt_or_ge q 5 with gq | gq
              · obtain rfl : q = 4 := by omega
                rcases Nat.lt_or_ge r 2 with gr | gr
                · rcases Nat.lt_or_ge r 1 with gr | gr
                  · obtain rfl : r = 0 := by omega
                    exact wblk_9_4_0
                  · obtain rfl : r = 1 := by omega
                    exact wblk_9_4_1
                · rcases Nat.lt_or_ge r 3 with gr | gr
                  · obtain rfl : r = 2 := by omega
                    exact wblk_9_4_2
                  · rcases Nat.lt_or_ge r 4 with gr | gr
                    · obtain rfl : r = 3 := by omega
                      exact wblk_9_4_3
                    · obtain rfl : r = 4 := by omega
                      exact wblk_9_4_4
              · obtain rfl : q = 5 := by omega
                rcases Nat.lt_or_ge r 3 with gr | gr
                · rcases Nat.lt_or_ge r 1 with gr | gr
                  · obtain rfl : r = 0 := by omega
                    exact wblk_9_5_0
                  · rcases Nat.lt_or_ge r 2 with gr | gr
                    · obtain rfl : r = 1 := by omega
                      exact wblk_9_5_1
                    · obtain rfl : r = 2 := by omega
                      exact wblk_9_5_2
                · rcases Nat.lt_or_ge r 4 with gr | gr
                  · obtain rfl : r = 3 := by omega
                    exact wblk_9_5_3
                  · rcases Nat.lt_or_ge r 5 with gr | gr
                    · obtain rfl : r = 4 := by omega
                      exact wblk_9_5_4
                    · obtain rfl : r = 5 := by omega
                      exact wblk_9_5_5
            · rcases Nat.lt_or_ge q 7 with gq | gq
              · obtain rfl : q = 6 := by omega
                rcases Nat.lt_or_ge r 3 with gr | gr
                · rcases Nat.lt_or_ge r 1 with gr | gr
                  · obtain rfl : r = 0 := by omega
                    exact wblk_9_6_0
                  · rcases Nat.lt_or_ge r 2 with gr | gr
                    · obtain rfl : r = 1 := by omega
                      exact wblk_9_6_1
                    · obtain rfl : r = 2 := by omega
                      exact wblk_9_6_2
                · rcases Nat.lt_or_ge r 5 with gr | gr
                  · rcases Nat.lt_or_ge r 4 with gr | gr
                    · obtain rfl : r = 3 := by omega
                      exact wblk_9_6_3
                    · obtain rfl : r = 4 := by omega
                      exact wblk_9_6_4
                  · rcases Nat.lt_or_ge r 6 with gr | gr
                    · obtain rfl : r = 5 := by omega
                      exact wblk_9_6_5
                    · obtain rfl : r = 6 := by omega
                      exact wblk_9_6_6
              · obtain rfl : q = 7 := by omega
                rcases Nat.lt_or_ge r 4 with gr | gr
                · rcases Nat.lt_or_ge r 2 with gr | gr
                  · rcases Nat.lt_or_ge r 1 with gr | gr
                    · obtain rfl : r = 0 := by omega
                      exact wblk_9_7_0
                    · obtain rfl : r = 1 := by omega
                      exact wblk_9_7_1
                  · rcases Nat.lt_or_ge r 3 with gr | gr
                    · obtain rfl : r = 2 := by omega
                      exact wblk_9_7_2
                    · obtain rfl : r = 3 := by omega
                      exact wblk_9_7_3
                · rcases Nat.lt_or_ge r 6 with gr | gr
                  · rcases Nat.lt_or_ge r 5 with gr | gr
                    · obtain rfl : r = 4 := by omega
                      exact wblk_9_7_4
                    · obtain rfl : r = 5 := by omega
                      exact wblk_9_7_5
                  · rcases Nat.lt_or_ge r 7 with gr | gr
                    · obtain rfl : r = 6 := by omega
                      exact wblk_9_7_6
                    · obtain rfl : r = 7 := by omega
                      exact wblk_9_7_7
        · obtain rfl : p = 10 := by omega
          rcases Nat.lt_or_ge q 4 with gq | gq
          · rcases Nat.lt_or_ge q 2 with gq | gq
            · rcases Nat.lt_or_ge q 1 with gq | gq
              · obtain rfl : q = 0 := by omega
                obtain rfl : r = 0 := by omega
                exact wblk_10_0_0
              · obtain rfl : q = 1 := by omega
                rcases Nat.lt_or_ge r 1 with gr | gr
                · obtain rfl : r = 0 := by omega
                  exact wblk_10_1_0
                · obtain rfl : r = 1 := by omega
                  exact wblk_10_1_1
            · rcases Nat.lt_or_ge q 3 with gq | gq
              · obtain rfl : q = 2 := by omega
                rcases Nat.lt_or_ge r 1 with gr | gr
                · obtain rfl : r = 0 := by omega
                  exact wblk_10_2_0
                · rcases Nat.lt_or_ge r 2 with gr | gr
                  · obtain rfl : r = 1 := by omega
                    exact wblk_10_2_1
                  · obtain rfl : r = 2 := by omega
                    exact wblk_10_2_2
              · obtain rfl : q = 3 := by omega
                rcases Nat.lt_or_ge r 2 with gr | gr
                · rcases Nat.lt_or_ge r 1 with gr | gr
                  · obtain rfl : r = 0 := by omega
                    exact wblk_10_3_0
                  · obtain rfl : r = 1 := by omega
                    exact wblk_10_3_1
                · rcases Nat.lt_or_ge r 3 with gr | gr
                  · obtain rfl : r = 2 := by omega
                    exact wblk_10_3_2
                  · obtain rfl : r = 3 := by omega
                    exact wblk_10_3_3
          · rcases Nat.lt_or_ge q 6 with gq | gq
            · rcases Nat.lt_or_ge q 5 with gq | gq
              · obtain rfl : q = 4 := by omega
                rcases Nat.lt_or_ge r 2 with gr | gr
                · rcases Nat.lt_or_ge r 1 with gr | gr
                  · obtain rfl : r = 0 := by omega
                    exact wblk_10_4_0
                  · obtain rfl : r = 1 := by omega
                    exact wblk_10_4_1
                · rcases Nat.lt_or_ge r 3 with gr | gr
                  · obtain rfl : r = 2 := by omega
                    exact wblk_10_4_2
                  · rcases Nat.lt_or_ge r 4 with gr | gr
                    · obtain rfl : r = 3 := by omega
                      exact wblk_10_4_3
                    · obtain rfl : r = 4 := by omega
                      exact wblk_10_4_4
              · obtain rfl : q = 5 := by omega
                rcases Nat.lt_or_ge r 3 with gr | gr
                · rcases Nat.lt_or_ge r 1 with gr | gr
                  · obtain rfl : r = 0 := by omega
                    exact wblk_10_5_0
                  · rcases Nat.lt_or_ge r 2 with gr | gr
                    · obtain rfl : r = 1 := by omega
                      exact wblk_10_5_1
                    · obtain rfl : r = 2 := by omega
                      exact wblk_10_5_2
                · rcases Nat.lt_or_ge r 4 with gr | gr
                  · obtain rfl : r = 3 := by omega
                    exact wblk_10_5_3
                  · rcases Nat.lt_or_ge r 5 with gr | gr
                    · obtain rfl : r = 4 := by omega
                      exact wblk_10_5_4
                    · obtain rfl : r = 5 := by omega
                      exact wblk_10_5_5
            · rcases Nat.lt_or_ge q 7 with gq | gq
              · obtain rfl : q = 6 := by omega
                rcases Nat.lt_or_ge r 3 with gr | gr
                · rcases Nat.lt_or_ge r 1 with gr | gr
                  · obtain rfl : r = 0 := by omega
                    exact wblk_10_6_0
                  · rcases Nat.lt_or_ge r 2 with gr | gr
                    · obtain rfl : r = 1 := by omega
                      exact wblk_10_6_1
                    · obtain rfl : r = 2 := by omega
                      exact wblk_10_6_2
                · rcases Nat.lt_or_ge r 5 with gr | gr
                  · rcases Nat.lt_or_ge r 4 with gr | gr
                    · obtain rfl : r = 3 := by omega
                      exact wblk_10_6_3
                    · obtain rfl : r = 4 := by omega
                      exact wblk_10_6_4
                  · rcases Nat.lt_or_ge r 6 with gr | gr
                    · obtain rfl : r = 5 := by omega
                      exact wblk_10_6_5
                    · obtain rfl : r = 6 := by omega
                      exact wblk_10_6_6
              · obtain rfl : q = 7 := by omega
                rcases Nat.lt_or_ge r 4 with gr | gr
                · rcases Nat.lt_or_ge r 2 with gr | gr
                  · rcases Nat.lt_or_ge r 1 with gr | gr
                    · obtain rfl : r = 0 := by omega
                      exact wblk_10_7_0
                    · obtain rfl : r = 1 := by omega
                      exact wblk_10_7_1
                  · rcases Nat.lt_or_ge r 3 with gr | gr
                    · obtain rfl : r = 2 := by omega
                      exact wblk_10_7_2
                    · obtain rfl : r = 3 := by omega
                      exact wblk_10_7_3
                · rcases Nat.lt_or_ge r 6 with gr | gr
                  · rcases Nat.lt_or_ge r 5 with gr | gr
                    · obtain rfl : r = 4 := by omega
                      exact wblk_10_7_4
                    · obtain rfl : r = 5 := by omega
                      exact wblk_10_7_5
                  · rcases Nat.lt_or_ge r 7 with gr | gr
                    · obtain rfl : r = 6 := by omega
                      exact wblk_10_7_6
                    · obtain rfl : r = 7 := by omega
                      exact wblk_10_7_7
theorem wblk_any (a : Int) (b : Int) (c : Int) (w : World) : Calls Tryz.prog 3 #[.int .i64 a, .int .i64 b, .int .i64 c] w fun e w' => e = .returned (.bool true) ∧ Go.RowKit.Below w.heap.size w w' := by
  obtain ⟨q, hq, fq⟩ := mask_and b 7 (by decide)
  have kq : (MK.and 1 7 q).OK (rhoL [a, b, c]) := fq
  obtain ⟨r, hr, fr⟩ := mask_rem c (1 + q) (by omega)
  have kr : (MK.rem 2 (1 + q) r).OK (rhoL [a, b, c]) := fr
  obtain ⟨p, hp, fp⟩ := w_cls _ (and_le a 4294967295 (by decide))
  have kp : (IV.mk 0 4294967295 (wLo p) (wHi p)).OK (rhoL [a, b, c]) := fp
  exact runM_calls awake_run (ρ := rhoL [a, b, c]) (ivs_cons kp ivs_nil) (all_cons kq (all_cons kr all_nil)) (by decide) (wblk_all p q r (by omega) (by omega) (by omega)) (.cons (.int rfl) (.cons (.int rfl) (.cons (.int rfl) .nil))) w
end Go.Proofs.YteapooonilhaiaaGreatDoor
