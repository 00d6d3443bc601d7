/-
  FlowHeights: what a call of it comes to.
-/
import Derived.Test.YtmloopjfjnjgiaaLawFlowHeightsC0
import Derived.Test.YtmloopjfjnjgiaaLawFlowHeightsC1
import Derived.Test.YtmloopjfjnjgiaaLawFlowHeightsC2
import Derived.Test.YtmloopjfjnjgiaaLawFlowHeightsC3
import Derived.Test.YtmloopjfjnjgiaaLawFlowHeightsC4
import Derived.Test.YtmloopjfjnjgiaaLawFlowHeightsC5
import Derived.Test.YtmloopjfjnjgiaaLawFlowHeightsC6
import Derived.Test.YtmloopjfjnjgiaaLawFlowHeightsC7
import Derived.Test.YtmloopjfjnjgiaaLawFlowHeightsC8
import Derived.Test.YtmloopjfjnjgiaaLawFlowHeightsC9
import Derived.Test.YtmloopjfjnjgiaaLawFlowHeightsC10
import Derived.Test.YtmloopjfjnjgiaaLawFlowHeightsC11
import Derived.Test.YtmloopjfjnjgiaaLawFlowHeightsC12
import Derived.Test.YtmloopjfjnjgiaaLawFlowHeightsC13
import Derived.Test.YtmloopjfjnjgiaaLawFlowHeightsC14
import Derived.Test.YtmloopjfjnjgiaaLawFlowHeightsC15
import Derived.Test.YtmloopjfjnjgiaaLawFlowHeightsC16
import Derived.Test.YtmloopjfjnjgiaaLawFlowHeightsC17
import Derived.Test.YtmloopjfjnjgiaaLawFlowHeightsC18
import Derived.Test.YtmloopjfjnjgiaaLawFlowHeightsC19
import Derived.Test.YtmloopjfjnjgiaaLawFlowHeightsC20
import Derived.Test.YtmloopjfjnjgiaaLawFlowHeightsC21
import Derived.Test.YtmloopjfjnjgiaaLawFlowHeightsC22
import Derived.Test.YtmloopjfjnjgiaaLawFlowHeightsC23
import Derived.Test.YtmloopjfjnjgiaaLawFlowHeightsC24
import Derived.Test.YtmloopjfjnjgiaaLawFlowHeightsC25
import Derived.Test.YtmloopjfjnjgiaaLawFlowHeightsC26
import Derived.Test.YtmloopjfjnjgiaaLawFlowHeightsC27
import Derived.Test.YtmloopjfjnjgiaaLawFlowHeightsC28
import Derived.Test.YtmloopjfjnjgiaaLawFlowHeightsC29
import Derived.Test.YtmloopjfjnjgiaaLawFlowHeightsC30
import Derived.Test.YtmloopjfjnjgiaaLawFlowHeightsC31
namespace Go.Proofs.Ytmloopjfjnjgiaa
open Go Vx

theorem fhgt_all (p : Nat) (q : Nat) (hp : p < 32) (hq : q < 32) : runM 4 [] [.and 0 31 p, .and 1 31 q] 3 [.int .i64 (.var 0), .int .i64 (.var 1)] = true := by
  rcases Nat.lt_or_ge p 16 with gp | gp
  · rcases Nat.lt_or_ge p 8 with gp | gp
    · rcases Nat.lt_or_ge p 4 with gp | gp
      · rcases Nat.lt_or_ge p 2 with gp | gp
        · rcases Nat.lt_or_ge p 1 with gp | gp
          · obtain rfl : p = 0 := by omega
            rcases Nat.lt_or_ge q 16 with gq | gq
            · rcases Nat.lt_or_ge q 8 with gq | gq
              · rcases Nat.lt_or_ge q 4 with gq | gq
                · rcases Nat.lt_or_ge q 2 with gq | gq
                  · rcases Nat.lt_or_ge q 1 with gq | gq
                    · obtain rfl : q = 0 := by omega
                      exact fhgt_0_0
                    · obtain rfl : q = 1 := by omega
                      exact fhgt_0_1
                  · rcases Nat.lt_or_ge q 3 with gq | gq
                    · obtain rfl : q = 2 := by omega
                      exact fhgt_0_2
                    · obtain rfl : q = 3 := by omega
                      exact fhgt_0_3
                · rcases Nat.lt_or_ge q 6 with gq | gq
                  · rcases Nat.lt_or_ge q 5 with gq | gq
                    · obtain rfl : q = 4 := by omega
                      exact fhgt_0_4
                    · obtain rfl : q = 5 := by omega
                      exact fhgt_0_5
                  · rcases Nat.lt_or_ge q 7 with gq | gq
                    · obtain rfl : q = 6 := by omega
                      exact fhgt_0_6
                    · obtain rfl : q = 7 := by omega
                      exact fhgt_0_7
              · rcases Nat.lt_or_ge q 12 with gq | gq
                · rcases Nat.lt_or_ge q 10 with gq | gq
                  · rcases Nat.lt_or_ge q 9 with gq | gq
                    · obtain rfl : q = 8 := by omega
                      exact fhgt_0_8
                    · obtain rfl : q = 9 := by omega
                      exact fhgt_0_9
                  · rcases Nat.lt_or_ge q 11 with gq | gq
                    · obtain rfl : q = 10 := by omega
                      exact fhgt_0_10
                    · obtain rfl : q = 11 := by omega
                      exact fhgt_0_11
                · rcases Nat.lt_or_ge q 14 with gq | gq
                  · rcases Nat.lt_or_ge q 13 with gq | gq
                    · obtain rfl : q = 12 := by omega
                      exact fhgt_0_12
                    · obtain rfl : q = 13 := by omega
                      exact fhgt_0_13
                  · rcases Nat.lt_or_ge q 15 with gq | gq
                    · obtain rfl : q = 14 := by omega
                      exact fhgt_0_14
                    · obtain rfl : q = 15 := by omega
                      exact fhgt_0_15
            · rcases Nat.lt_or_ge q 24 with gq | gq
              · rcases Nat.lt_or_ge q 20 with gq | gq
                · rcases Nat.lt_or_ge q 18 with gq | gq
                  · rcases Nat.lt_or_ge q 17 with gq | gq
                    · obtain rfl : q = 16 := by omega
                      exact fhgt_0_16
                    · obtain rfl : q = 17 := by omega
                      exact fhgt_0_17
                  · rcases Nat.lt_or_ge q 19 with gq | gq
                    · obtain rfl : q = 18 := by omega
                      exact fhgt_0_18
                    · obtain rfl : q = 19 := by omega
                      exact fhgt_0_19
                · rcases Nat.lt_or_ge q 22 with gq | gq
                  · rcases Nat.lt_or_ge q 21 with gq | gq
                    · obtain rfl : q = 20 := by omega
                      exact fhgt_0_20
                    · obtain rfl : q = 21 := by omega
                      exact fhgt_0_21
                  · rcases Nat.lt_or_ge q 23 with gq | gq
                    · obtain rfl : q = 22 := by omega
                      exact fhgt_0_22
                    · obtain rfl : q = 23 := by omega
                      exact fhgt_0_23
              · rcases Nat.lt_or_ge q 28 with gq | gq
                · rcases Nat.lt_or_ge q 26 with gq | gq
                  · rcases Nat.lt_or_ge q 25 with gq | gq
                    · obtain rfl : q = 24 := by omega
                      exact fhgt_0_24
                    · obtain rfl : q = 25 := by omega
                      exact fhgt_0_25
                  · rcases Nat.lt_or_ge q 27 with gq | gq
                    · obtain rfl : q = 26 := by omega
                      exact fhgt_0_26
                    · obtain rfl : q = 27 := by omega
                      exact fhgt_0_27
                · rcases Nat.lt_or_ge q 30 with gq | gq
                  · rcases Nat.lt_or_ge q 29 with gq | gq
                    · obtain rfl : q = 28 := by omega
                      exact fhgt_0_28
                    · obtain rfl : q = 29 := by omega
                      exact fhgt_0_29
                  · rcases Nat.lt_or_ge q 31 with gq | gq
                    · obtain rfl : q = 30 := by omega
                      exact fhgt_0_30
                    · obtain rfl : q = 31 := by omega
                      exact fhgt_0_31
          · obtain rfl : p = 1 := by omega
            rcases Nat.lt_or_ge q 16 with gq | gq
            · rcases Nat.lt_or_ge q 8 with gq | gq
              · rcases Nat.lt_or_ge q 4 with gq | gq
                · rcases Nat.lt_or_ge q 2 with gq | gq
                  · rcases Nat.lt_or_ge q 1 with gq | gq
                    · obtain rfl : q = 0 := by omega
                      exact fhgt_1_0
                    · obtain rfl : q = 1 := by omega
                      exact fhgt_1_1
                  · rcases Nat.lt_or_ge q 3 with gq | gq
                    · obtain rfl : q = 2 := by omega
                      exact fhgt_1_2
                    · obtain rfl : q = 3 := by omega
                      exact fhgt_1_3
                · rcases Nat.lt_or_ge q 6 with gq | gq
                  · rcases Nat.lt_or_ge q 5 with gq | gq
                    · obtain rfl : q = 4 := by omega
                      exact fhgt_1_4
                    · obtain rfl : q = 5 := by omega
                      exact fhgt_1_5
                  · rcases Nat.lt_or_ge q 7 with gq | gq
                    · obtain rfl : q = 6 := by omega
                      exact fhgt_1_6
                    · obtain rfl : q = 7 := by omega
                      exact fhgt_1_7
              · rcases Nat.lt_or_ge q 12 with gq | gq
                · rcases Nat.lt_or_ge q 10 with gq | gq
                  · rcases Nat.lt_or_ge q 9 with gq | gq
                    · obtain rfl : q = 8 := by omega
                      exact fhgt_1_8
                    · obtain rfl : q = 9 := by omega
                      exact fhgt_1_9
                  · rcases Nat.lt_or_ge q 11 with gq | gq
                    · obtain rfl : q = 10 := by omega
                      exact fhgt_1_10
                    · obtain rfl : q = 11 := by omega
                      exact fhgt_1_11
                · rcases Nat.lt_or_ge q 14 with gq | gq
                  · rcases Nat.lt_or_ge q 13 with gq | gq
                    · obtain rfl : q = 12 := by omega
                      exact fhgt_1_12
                    · obtain rfl : q = 13 := by omega
                      exact fhgt_1_13
                  · rcases Nat.lt_or_ge q 15 with gq | gq
                    · obtain rfl : q = 14 := by omega
                      exact fhgt_1_14
                    · obtain rfl : q = 15 := by omega
                      exact fhgt_1_15
            · rcases Nat.lt_or_ge q 24 with gq | gq
              · rcases Nat.lt_or_ge q 20 with gq | gq
                · rcases Nat.lt_or_ge q 18 with gq | gq
                  · rcases Nat.lt_or_ge q 17 with gq | gq
                    · obtain rfl : q = 16 := by omega
                      exact fhgt_1_16
                    · obtain rfl : q = 17 := by omega
                      exact fhgt_1_17
                  · rcases Nat.lt_or_ge q 19 with gq | gq
                    · obtain rfl : q = 18 := by omega
                      exact fhgt_1_18
                    · obtain rfl : q = 19 := by omega
                      exact fhgt_1_19
                · rcases Nat.lt_or_ge q 22 with gq | gq
                  · rcases Nat.lt_or_ge q 21 with gq | gq
                    · obtain rfl : q = 20 := by omega
                      exact fhgt_1_20
                    · obtain rfl : q = 21 := by omega
                      exact fhgt_1_21
                  · rcases Nat.lt_or_ge q 23 with gq | gq
                    · obtain rfl : q = 22 := by omega
                      exact fhgt_1_22
                    · obtain rfl : q = 23 := by omega
                      exact fhgt_1_23
              · rcases Nat.lt_or_ge q 28 with gq | gq
                · rcases Nat.lt_or_ge q 26 with gq | gq
                  · rcases Nat.lt_or_ge q 25 with gq | gq
                    · obtain rfl : q = 24 := by omega
                      exact fhgt_1_24
                    · obtain rfl : q = 25 := by omega
                      exact fhgt_1_25
                  · rcases Nat.lt_or_ge q 27 with gq | gq
                    · obtain rfl : q = 26 := by omega
                      exact fhgt_1_26
                    · obtain rfl : q = 27 := by omega
                      exact fhgt_1_27
                · rcases Nat.lt_or_ge q 30 with gq | gq
                  · rcases Nat.lt_or_ge q 29 with gq | gq
                    · obtain rfl : q = 28 := by omega
                      exact fhgt_1_28
                    · obtain rfl : q = 29 := by omega
                      exact fhgt_1_29
                  · rcases Nat.lt_or_ge q 31 with gq | gq
                    · obtain rfl : q = 30 := by omega
                      exact fhgt_1_30
                    · obtain rfl : q = 31 := by omega
                      exact fhgt_1_31
        · rcases Nat.lt_or_ge p 3 with gp | gp
          · obtain rfl : p = 2 := by omega
            rcases Nat.lt_or_ge q 16 with gq | gq
            · rcases Nat.lt_or_ge q 8 with gq | gq
              · rcases Nat.lt_or_ge q 4 with gq | gq
                · rcases Nat.lt_or_ge q 2 with gq | gq
                  · rcases Nat.lt_or_ge q 1 with gq | gq
                    · obtain rfl : q = 0 := by omega
                      exact fhgt_2_0
                    · obtain rfl : q = 1 := by omega
                      exact fhgt_2_1
                  · rcases Nat.lt_or_ge q 3 with gq | gq
                    · obtain rfl : q = 2 := by omega
                      exact fhgt_2_2
                    · obtain rfl : q = 3 := by omega
                      exact fhgt_2_3
                · rcases Nat.lt_or_ge q 6 with gq | gq
                  · rcases Nat.lt_or_ge q 5 with gq | gq
                    · obtain rfl : q = 4 := by omega
                      exact fhgt_2_4
                    · obtain rfl : q = 5 := by omega
                      exact fhgt_2_5
                  · rcases Nat.lt_or_ge q 7 with gq | gq
                    · obtain rfl : q = 6 := by omega
                      exact fhgt_2_6
                    · obtain rfl : q = 7 := by omega
                      exact fhgt_2_7
              · rcases Nat.lt_or_ge q 12 with gq | gq
                · rcases Nat.lt_or_ge q 10 with gq | gq
                  · rcases Nat.lt_or_ge q 9 with gq | gq
                    · obtain rfl : q = 8 := by omega
                      exact fhgt_2_8
                    · obtain rfl : q = 9 := by omega
                      exact fhgt_2_9
                  · rcases Nat.lt_or_ge q 11 with gq | gq
                    · obtain rfl : q = 10 := by omega
                      exact fhgt_2_10
                    · obtain rfl : q = 11 := by omega
                      exact fhgt_2_11
                · rcases Nat.lt_or_ge q 14 with gq | gq
                  · rcases Nat.lt_or_ge q 13 with gq | gq
                    · obtain rfl : q = 12 := by omega
                      exact fhgt_2_12
                    · obtain rfl : q = 13 := by omega
                      exact fhgt_2_13
                  · rcases Nat.lt_or_ge q 15 with gq | gq
                    · obtain rfl : q = 14 := by omega
                      exact fhgt_2_14
                    · obtain rfl : q = 15 := by omega
                      exact fhgt_2_15
            · rcases Nat.lt_or_ge q 24 with gq | gq
              · rcases Nat.lt_or_ge q 20 with gq | gq
                · rcases Nat.lt_or_ge q 18 with gq | gq
                  · rcases Nat.lt_or_ge q 17 with gq | gq
                    · obtain rfl : q = 16 := by omega
                      exact fhgt_2_16
                    · obtain rfl : q = 17 := by omega
                      exact fhgt_2_17
                  · rcases Nat.lt_or_ge q 19 with gq | gq
                    · obtain rfl : q = 18 := by omega
                      exact fhgt_2_18
                    · obtain rfl : q = 19 := by omega
                      exact fhgt_2_19
                · rcases Nat.lt_or_ge q 22 with gq | gq
                  · rcases Nat.lt_or_ge q 21 with gq | gq
                    · obtain rfl : q = 20 := by omega
                      exact fhgt_2_20
                    · obtain rfl : q = 21 := by omega
                      exact fhgt_2_21
                  · rcases Nat.lt_or_ge q 23 with gq | gq
                    · obtain rfl : q = 22 := by omega
                      exact fhgt_2_22
                    · obtain rfl : q = 23 := by omega
                      exact fhgt_2_23
              · rcases Nat.lt_or_ge q 28 with gq | gq
                · rcases Nat.lt_or_ge q 26 with gq | gq
                  · rcases Nat.lt_or_ge q 25 with gq | gq
                    · obtain rfl : q = 24 := by omega
                      exact fhgt_2_24
                    · obtain rfl : q = 25 := by omega
                      exact fhgt_2_25
                  · rcases Nat.lt_or_ge q 27 with gq | gq
                    · obtain rfl : q = 26 := by omega
                      exact fhgt_2_26
                    · obtain rfl : q = 27 := by omega
                      exact fhgt_2_27
                · rcases Nat.lt_or_ge q 30 with gq | gq
                  · rcases Nat.lt_or_ge q 29 with gq | gq
                    · obtain rfl : q = 28 := by omega
                      exact fhgt_2_28
                    · obtain rfl : q = 29 := by omega
                      exact fhgt_2_29
                  · rcases Nat.lt_or_ge q 31 with gq | gq
                    · obtain rfl : q = 30 := by omega
                      exact fhgt_2_30
                    · obtain rfl : q = 31 := by omega
                      exact fhgt_2_31
          · obtain rfl : p = 3 := by omega
            rcases Nat.lt_or_ge q 16 with gq | gq
            · rcases Nat.lt_or_ge q 8 with gq | gq
              · rcases Nat.lt_or_ge q 4 with gq | gq
                · rcases Nat.lt_or_ge q 2 with gq | gq
                  · rcases Nat.lt_or_ge q 1 with gq | gq
                    · obtain rfl : q = 0 := by omega
                      exact fhgt_3_0
                    · obtain rfl : q = 1 := by omega
                      exact fhgt_3_1
                  · rcases Nat.lt_or_ge q 3 with gq | gq
                    · obtain rfl : q = 2 := by omega
                      exact fhgt_3_2
                    · obtain rfl : q = 3 := by omega
                      exact fhgt_3_3
                · rcases Nat.lt_or_ge q 6 with gq | gq
                  · rcases Nat.lt_or_ge q 5 with gq | gq
                    · obtain rfl : q = 4 := by omega
                      exact fhgt_3_4
                    · obtain rfl : q = 5 := by omega
                      exact fhgt_3_5
                  · rcases Nat.lt_or_ge q 7 with gq | gq
                    · obtain rfl : q = 6 := by omega
                      exact fhgt_3_6
                    · obtain rfl : q = 7 := by omega
                      exact fhgt_3_7
              · rcases Nat.lt_or_ge q 12 with gq | gq
                · rcases Nat.lt_or_ge q 10 with gq | gq
                  · rcases Nat.lt_or_ge q 9 with gq | gq
                    · obtain rfl : q = 8 := by omega
                      exact fhgt_3_8
                    · obtain rfl : q = 9 := by omega
                      exact fhgt_3_9
                  · rcases Nat.lt_or_ge q 11 with gq | gq
                    · obtain rfl : q = 10 := by omega
                      exact fhgt_3_10
                    · obtain rfl : q = 11 := by omega
                      exact fhgt_3_11
                · rcases Nat.lt_or_ge q 14 with gq | gq
                  · rcases Nat.lt_or_ge q 13 with gq | gq
                    · obtain rfl : q = 12 := by omega
                      exact fhgt_3_12
                    · obtain rfl : q = 13 := by omega
                      exact fhgt_3_13
                  · rcases Nat.lt_or_ge q 15 with gq | gq
                    · obtain rfl : q = 14 := by omega
                      exact fhgt_3_14
                    · obtain rfl : q = 15 := by omega
                      exact fhgt_3_15
            · rcases Nat.lt_or_ge q 24 with gq | gq
              · rcases Nat.lt_or_ge q 20 with gq | gq
                · rcases Nat.lt_or_ge q 18 with gq | gq
                  · rcases Nat.lt_or_ge q 17 with gq | gq
                    · obtain rfl : q = 16 := by omega
                      exact fhgt_3_16
                    · obtain rfl : q = 17 := by omega
                      exact fhgt_3_17
                  · rcases Nat.lt_or_ge q 19 with gq | gq
                    · obtain rfl : q = 18 := by omega
                      exact fhgt_3_18
                    · obtain rfl : q = 19 := by omega
                      exact fhgt_3_19
                · rcases Nat.lt_or_ge q 22 with gq | gq
                  · rcases Nat.lt_or_ge q 21 with gq | gq
                    · obtain rfl : q = 20 := by omega
                      exact fhgt_3_20
                    · obtain rfl : q = 21 := by omega
                      exact fhgt_3_21
                  · rcases Nat.lt_or_ge q 23 with gq | gq
                    · obtain rfl : q = 22 := by omega
                      exact fhgt_3_22
                    · obtain rfl : q = 23 := by omega
                      exact fhgt_3_23
              · rcases Nat.lt_or_ge q 28 with gq | gq
                · rcases Nat.lt_or_ge q 26 with gq | gq
                  · rcases Nat.lt_or_ge q 25 with gq | gq
                    · obtain rfl : q = 24 := by omega
                      exact fhgt_3_24
                    · obtain rfl : q = 25 := by omega
                      exact fhgt_3_25
                  · rcases Nat.lt_or_ge q 27 with gq | gq
                    · obtain rfl : q = 26 := by omega
                      exact fhgt_3_26
                    · obtain rfl : q = 27 := by omega
                      exact fhgt_3_27
                · rcases Nat.lt_or_ge q 30 with gq | gq
                  · rcases Nat.lt_or_ge q 29 with gq | gq
                    · obtain rfl : q = 28 := by omega
                      exact fhgt_3_28
                    · obtain rfl : q = 29 := by omega
                      exact fhgt_3_29
                  · rcases Nat.lt_or_ge q 31 with gq | gq
                    · obtain rfl : q = 30 := by omega
                      exact fhgt_3_30
                    · obtain rfl : q = 31 := by omega
                      exact fhgt_3_31
      · rcases Nat.lt_or_ge p 6 with gp | gp
        · rcases Nat.lt_or_ge p 5 with gp | gp
          · obtain rfl : p = 4 := by omega
            rcases Nat.lt_or_ge q 16 with gq | gq
            · rcases Nat.lt_or_ge q 8 with gq | gq
              · rcases Nat.lt_or_ge q 4 with gq | gq
                · rcases Nat.lt_or_ge q 2 with gq | gq
                  · rcases Nat.lt_or_ge q 1 with gq | gq
                    · obtain rfl : q = 0 := by omega
                      exact fhgt_4_0
                    · obtain rfl : q = 1 := by omega
                      exact fhgt_4_1
                  · rcases Nat.lt_or_ge q 3 with gq | gq
                    · obtain rfl : q = 2 := by omega
                      exact fhgt_4_2
                    · obtain rfl : q = 3 := by omega
                      exact fhgt_4_3
                · rcases Nat.lt_or_ge q 6 with gq | gq
                  · rcases Nat.lt_or_ge q 5 with gq | gq
                    · obtain rfl : q = 4 := by omega
                      exact fhgt_4_4
                    · obtain rfl : q = 5 := by omega
                      exact fhgt_4_5
                  · rcases Nat.lt_or_ge q 7 with gq | gq
                    · obtain rfl : q = 6 := by omega
                      exact fhgt_4_6
                    · obtain rfl : q = 7 := by omega
                      exact fhgt_4_7
              · rcases Nat.lt_or_ge q 12 with gq | gq
                · rcases Nat.lt_or_ge q 10 with gq | gq
                  · rcases Nat.lt_or_ge q 9 with gq | gq
                    · obtain rfl : q = 8 := by omega
                      exact fhgt_4_8
                    · obtain rfl : q = 9 := by omega
                      exact fhgt_4_9
                  · rcases Nat.lt_or_ge q 11 with gq | gq
                    · obtain rfl : q = 10 := by omega
                      exact fhgt_4_10
                    · obtain rfl : q = 11 := by omega
                      exact fhgt_4_11
                · rcases Nat.lt_or_ge q 14 with gq | gq
                  · rcases Nat.lt_or_ge q 13 with gq | gq
                    · obtain rfl : q = 12 := by omega
                      exact fhgt_4_12
                    · obtain rfl : q = 13 := by omega
                      exact fhgt_4_13
                  · rcases Nat.lt_or_ge q 15 with gq | gq
                    · obtain rfl : q = 14 := by omega
                      exact fhgt_4_14
                    · obtain rfl : q = 15 := by omega
                      exact fhgt_4_15
            · rcases Nat.lt_or_ge q 24 with gq | gq
              · rcases Nat.lt_or_ge q 20 with gq | gq
                · rcases Nat.lt_or_ge q 18 with gq | gq
                  · rcases Nat.lt_or_ge q 17 with gq | gq
                    · obtain rfl : q = 16 := by omega
                      exact fhgt_4_16
                    · obtain rfl : q = 17 := by omega
                      exact fhgt_4_17
                  · rcases Nat.lt_or_ge q 19 with gq | gq
                    · obtain rfl : q = 18 := by omega
                      exact fhgt_4_18
                    · obtain rfl : q = 19 := by omega
                      exact fhgt_4_19
                · rcases Nat.lt_or_ge q 22 with gq | gq
                  · rcases Nat.lt_or_ge q 21 with gq | gq
                    · obtain rfl : q = 20 := by omega
                      exact fhgt_4_20
                    · obtain rfl : q = 21 := by omega
                      exact fhgt_4_21
                  · rcases Nat.lt_or_ge q 23 with gq | gq
                    · obtain rfl : q = 22 := by omega
                      exact fhgt_4_22
                    · obtain rfl : q = 23 := by omega
                      exact fhgt_4_23
              · rcases Nat.lt_or_ge q 28 with gq | gq
                · rcases Nat.lt_or_ge q 26 with gq | gq
                  · rcases Nat.lt_or_ge q 25 with gq | gq
                    · obtain rfl : q = 24 := by omega
                      exact fhgt_4_24
                    · obtain rfl : q = 25 := by omega
                      exact fhgt_4_25
                  · rcases Nat.lt_or_ge q 27 with gq | gq
                    · obtain rfl : q = 26 := by omega
                      exact fhgt_4_26
                    · obtain rfl : q = 27 := by omega
                      exact fhgt_4_27
                · rcases Nat.lt_or_ge q 30 with gq | gq
                  · rcases Nat.lt_or_ge q 29 with gq | gq
                    · obtain rfl : q = 28 := by omega
                      exact fhgt_4_28
                    · obtain rfl : q = 29 := by omega
                      exact fhgt_4_29
                  · rcases Nat.lt_or_ge q 31 with gq | gq
                    · obtain rfl : q = 30 := by omega
                      exact fhgt_4_30
                    · obtain rfl : q = 31 := by omega
                      exact fhgt_4_31
          · obtain rfl : p = 5 := by omega
            rcases Nat.lt_or_ge q 16 with gq | gq
            · rcases Nat.lt_or_ge q 8 with gq | gq
              · rcases Nat.lt_or_ge q 4 with gq | gq
                · rcases Nat.lt_or_ge q 2 with gq | gq
                  · rcases Nat.lt_or_ge q 1 with gq | gq
                    · obtain rfl : q = 0 := by omega
                      exact fhgt_5_0
                    · obtain rfl : q = 1 := by omega
                      exact fhgt_5_1
                  · rcases Nat.lt_or_ge q 3 with gq | gq
                    · obtain rfl : q = 2 := by omega
                      exact fhgt_5_2
                    · obtain rfl : q = 3 := by omega
                      exact fhgt_5_3
                · rcases Nat.lt_or_ge q 6 with gq | gq
                  · rcases Nat.lt_or_ge q 5 with gq | gq
                    · obtain rfl : q = 4 := by omega
                      exact fhgt_5_4
                    · obtain rfl : q = 5 := by omega
                      exact fhgt_5_5
                  · rcases Nat.lt_or_ge q 7 with gq | gq
                    · obtain rfl : q = 6 := by omega
                      exact fhgt_5_6
                    · obtain rfl : q = 7 := by omega
                      exact fhgt_5_7
              · rcases Nat.lt_or_ge q 12 with gq | gq
                · rcases Nat.lt_or_ge q 10 with gq | gq
                  · rcases Nat.lt_or_ge q 9 with gq | gq
                    · obtain rfl : q = 8 := by omega
                      exact fhgt_5_8
                    · obtain rfl : q = 9 := by omega
                      exact fhgt_5_9
                  · rcases Nat.lt_or_ge q 11 with gq | gq
                    · obtain rfl : q = 10 := by omega
                      exact fhgt_5_10
                    · obtain rfl : q = 11 := by omega
                      exact fhgt_5_11
                · rcases Nat.lt_or_ge q 14 with gq | gq
                  · rcases Nat.lt_or_ge q 13 with gq | gq
                    · obtain rfl : q = 12 := by omega
                      exact fhgt_5_12
                    · obtain rfl : q = 13 := by omega
                      exact fhgt_5_13
                  · rcases Nat.lt_or_ge q 15 with gq | gq
                    · obtain rfl : q = 14 := by omega
                      exact fhgt_5_14
                    · obtain rfl : q = 15 := by omega
                      exact fhgt_5_15
            · rcases Nat.lt_or_ge q 24 with gq | gq
              · rcases Nat.lt_or_ge q 20 with gq | gq
                · rcases Nat.lt_or_ge q 18 with gq | gq
                  · rcases Nat.lt_or_ge q 17 with gq | gq
                    · obtain rfl : q = 16 := by omega
                      exact fhgt_5_16
                    · obtain rfl : q = 17 := by omega
                      exact fhgt_5_17
                  · rcases Nat.lt_or_ge q 19 with gq | gq
                    · obtain rfl : q = 18 := by omega
                      exact fhgt_5_18
                    · obtain rfl : q = 19 := by omega
                      exact fhgt_5_19
                · rcases Nat.lt_or_ge q 22 with gq | gq
                  · rcases Nat.lt_or_ge q 21 with gq | gq
                    · obtain rfl : q = 20 := by omega
                      exact fhgt_5_20
                    · obtain rfl : q = 21 := by omega
                      exact fhgt_5_21
                  · rcases Nat.lt_or_ge q 23 with gq | gq
                    · obtain rfl : q = 22 := by omega
                      exact fhgt_5_22
                    · obtain rfl : q = 23 := by omega
                      exact fhgt_5_23
              · rcases Nat.lt_or_ge q 28 with gq | gq
                · rcases Nat.lt_or_ge q 26 with gq | gq
                  · rcases Nat.lt_or_ge q 25 with gq | gq
                    · obtain rfl : q = 24 := by omega
                      exact fhgt_5_24
                    · obtain rfl : q = 25 := by omega
                      exact fhgt_5_25
                  · rcases Nat.lt_or_ge q 27 with gq | gq
                    · obtain rfl : q = 26 := by omega
                      exact fhgt_5_26
                    · obtain rfl : q = 27 := by omega
                      exact fhgt_5_27
                · rcases Nat.lt_or_ge q 30 with gq | gq
                  · rcases Nat.lt_or_ge q 29 with gq | gq
                    · obtain rfl : q = 28 := by omega
                      exact fhgt_5_28
                    · obtain rfl : q = 29 := by omega
                      exact fhgt_5_29
                  · rcases Nat.lt_or_ge q 31 with gq | gq
                    · obtain rfl : q = 30 := by omega
                      exact fhgt_5_30
                    · obtain rfl : q = 31 := by omega
                      exact fhgt_5_31
        · rcases Nat.lt_or_ge p 7 with gp | gp
          · obtain rfl : p = 6 := by omega
            rcases Nat.lt_or_ge q 16 with gq | gq
            · rcases Nat.lt_or_ge q 8 with gq | gq
              · rcases Nat.lt_or_ge q 4 with gq | gq
                · rcases Nat.lt_or_ge q 2 with gq | gq
                  · rcases Nat.lt_or_ge q 1 with gq | gq
                    · obtain rfl : q = 0 := by omega
                      exact fhgt_6_0
                    · obtain rfl : q = 1 := by omega
                      exact fhgt_6_1
                  · rcases Nat.lt_or_ge q 3 with gq | gq
                    · obtain rfl : q = 2 := by omega
                      exact fhgt_6_2
                    · obtain rfl : q = 3 := by omega
                      exact fhgt_6_3
                · rcases Nat.lt_or_ge q 6 with gq | gq
                  · rcases Nat.lt_or_ge q 5 with gq | gq
                    · obtain rfl : q = 4 := by omega
                      exact fhgt_6_4
                    · obtain rfl : q = 5 := by omega
                      exact fhgt_6_5
                  · rcases Nat.lt_or_ge q 7 with gq | gq
                    · obtain rfl : q = 6 := by omega
                      exact fhgt_6_6
                    · obtain rfl : q = 7 := by omega
                      exact fhgt_6_7
              · rcases Nat.lt_or_ge q 12 with gq | gq
                · rcases Nat.lt_or_ge q 10 with gq | gq
                  · rcases Nat.lt_or_ge q 9 with gq | gq
                    · obtain rfl : q = 8 := by omega
                      exact fhgt_6_8
                    · obtain rfl : q = 9 := by omega
                      exact fhgt_6_9
                  · rcases Nat.lt_or_ge q 11 with gq | gq
                    · obtain rfl : q = 10 := by omega
                      exact fhgt_6_10
                    · obtain rfl : q = 11 := by omega
                      exact fhgt_6_11
                · rcases Nat.lt_or_ge q 14 with gq | gq
                  · rcases Nat.lt_or_ge q 13 with gq | gq
                    · obtain rfl : q = 12 := by omega
                      exact fhgt_6_12
                    · obtain rfl : q = 13 := by omega
                      exact fhgt_6_13
                  · rcases Nat.lt_or_ge q 15 with gq | gq
                    · obtain rfl : q = 14 := by omega
                      exact fhgt_6_14
                    · obtain rfl : q = 15 := by omega
                      exact fhgt_6_15
            · rcases Nat.lt_or_ge q 24 with gq | gq
              · rcases Nat.lt_or_ge q 20 with gq | gq
                · rcases Nat.lt_or_ge q 18 with gq | gq
                  · rcases Nat.lt_or_ge q 17 with gq | gq
                    · obtain rfl : q = 16 := by omega
                      exact fhgt_6_16
                    · obtain rfl : q = 17 := by omega
                      exact fhgt_6_17
                  · rcases Nat.lt_or_ge q 19 with gq | gq
                    · obtain rfl : q = 18 := by omega
                      exact fhgt_6_18
                    · obtain rfl : q = 19 := by omega
                      exact fhgt_6_19
                · rcases Nat.lt_or_ge q 22 with gq | gq
                  · rcases Nat.lt_or_ge q 21 with gq | gq
                    · obtain rfl : q = 20 := by omega
                      exact fhgt_6_20
                    · obtain rfl : q = 21 := by omega
                      exact fhgt_6_21
                  · rcases Nat.lt_or_ge q 23 with gq | gq
                    · obtain rfl : q = 22 := by omega
                      exact fhgt_6_22
                    · obtain rfl : q = 23 := by omega
                      exact fhgt_6_23
              · rcases Nat.lt_or_ge q 28 with gq | gq
                · rcases Nat.lt_or_ge q 26 with gq | gq
                  · rcases Nat.lt_or_ge q 25 with gq | gq
                    · obtain rfl : q = 24 := by omega
                      exact fhgt_6_24
                    · obtain rfl : q = 25 := by omega
                      exact fhgt_6_25
                  · rcases Nat.lt_or_ge q 27 with gq | gq
                    · obtain rfl : q = 26 := by omega
                      exact fhgt_6_26
                    · obtain rfl : q = 27 := by omega
                      exact fhgt_6_27
                · rcases Nat.lt_or_ge q 30 with gq | gq
                  · rcases Nat.lt_or_ge q 29 with gq | gq
                    · obtain rfl : q = 28 := by omega
                      exact fhgt_6_28
                    · obtain rfl : q = 29 := by omega
                      exact fhgt_6_29
                  · rcases Nat.lt_or_ge q 31 with gq | gq
                    · obtain rfl : q = 30 := by omega
                      exact fhgt_6_30
                    · obtain rfl : q = 31 := by omega
                      exact fhgt_6_31
          · obtain rfl : p = 7 := by omega
            rcases Nat.lt_or_ge q 16 with gq | gq
            · rcases Nat.lt_or_ge q 8 with gq | gq
              · rcases Nat.lt_or_ge q 4 with gq | gq
                · rcases Nat.lt_or_ge q 2 with gq | gq
                  · rcases Nat.lt_or_ge q 1 with gq | gq
                    · obtain rfl : q = 0 := by omega
                      exact fhgt_7_0
                    · obtain rfl : q = 1 := by omega
                      exact fhgt_7_1
                  · rcases Nat.lt_or_ge q 3 with gq | gq
                    · obtain rfl : q = 2 := by omega
                      exact fhgt_7_2
                    · obtain rfl : q = 3 := by omega
                      exact fhgt_7_3
                · rcases Nat.lt_or_ge q 6 with gq | gq
                  · rcases Nat.lt_or_ge q 5 with gq | gq
                    · obtain rfl : q = 4 := by omega
                      exact fhgt_7_4
                    · obtain rfl : q = 5 := by omega
                      exact fhgt_7_5
                  · rcases Nat.lt_or_ge q 7 with gq | gq
                    · obtain rfl : q = 6 := by omega
                      exact fhgt_7_6
                    · obtain rfl : q = 7 := by omega
                      exact fhgt_7_7
              · rcases Nat.lt_or_ge q 12 with gq | gq
                · rcases Nat.lt_or_ge q 10 with gq | gq
                  · rcases Nat.lt_or_ge q 9 with gq | gq
                    · obtain rfl : q = 8 := by omega
                      exact fhgt_7_8
                    · obtain rfl : q = 9 := by omega
                      exact fhgt_7_9
                  · rcases Nat.lt_or_ge q 11 with gq | gq
                    · obtain rfl : q = 10 := by omega
                      exact fhgt_7_10
                    · obtain rfl : q = 11 := by omega
                      exact fhgt_7_11
                · rcases Nat.lt_or_ge q 14 with gq | gq
                  · rcases Nat.lt_or_ge q 13 with gq | gq
                    · obtain rfl : q = 12 := by omega
                      exact fhgt_7_12
                    · obtain rfl : q = 13 := by omega
                      exact fhgt_7_13
                  · rcases Nat.lt_or_ge q 15 with gq | gq
                    · obtain rfl : q = 14 := by omega
                      exact fhgt_7_14
                    · obtain rfl : q = 15 := by omega
                      exact fhgt_7_15
            · rcases Nat.lt_or_ge q 24 with gq | gq
              · rcases Nat.lt_or_ge q 20 with gq | gq
                · rcases Nat.lt_or_ge q 18 with gq | gq
                  · rcases Nat.lt_or_ge q 17 with gq | gq
                    · obtain rfl : q = 16 := by omega
                      exact fhgt_7_16
                    · obtain rfl : q = 17 := by omega
                      exact fhgt_7_17
                  · rcases Nat.lt_or_ge q 19 with gq | gq
                    · obtain rfl : q = 18 := by omega
                      exact fhgt_7_18
                    · obtain rfl : q = 19 := by omega
                      exact fhgt_7_19
                · rcases Nat.lt_or_ge q 22 with gq | gq
                  · rcases Nat.lt_or_ge q 21 with gq | gq
                    · obtain rfl : q = 20 := by omega
                      exact fhgt_7_20
                    · obtain rfl : q = 21 := by omega
                      exact fhgt_7_21
                  · rcases Nat.lt_or_ge q 23 with gq | gq
                    · obtain rfl : q = 22 := by omega
                      exact fhgt_7_22
                    · obtain rfl : q = 23 := by omega
                      exact fhgt_7_23
              · rcases Nat.lt_or_ge q 28 with gq | gq
                · rcases Nat.lt_or_ge q 26 with gq | gq
                  · rcases Nat.lt_or_ge q 25 with gq | gq
                    · obtain rfl : q = 24 := by omega
                      exact fhgt_7_24
                    · obtain rfl : q = 25 := by omega
                      exact fhgt_7_25
                  · rcases Nat.lt_or_ge q 27 with gq | gq
                    · obtain rfl : q = 26 := by omega
                      exact fhgt_7_26
                    · obtain rfl : q = 27 := by omega
                      exact fhgt_7_27
                · rcases Nat.lt_or_ge q 30 with gq | gq
                  · rcases Nat.lt_or_ge q 29 with gq | gq
                    · obtain rfl : q = 28 := by omega
                      exact fhgt_7_28
                    · obtain rfl : q = 29 := by omega
                      exact fhgt_7_29
                  · rcases Nat.lt_or_ge q 31 with gq | gq
                    · obtain rfl : q = 30 := by omega
                      exact fhgt_7_30
                    · obtain rfl : q = 31 := by omega
                      exact fhgt_7_31
    · rcases Nat.lt_or_ge p 12 with gp | gp
      · rcases Nat.lt_or_ge p 10 with gp | gp
        · rcases Nat.lt_or_ge p 9 with gp | gp
          · obtain rfl : p = 8 := by omega
            rcases Nat.lt_or_ge q 16 with gq | gq
            · rcases Nat.lt_or_ge q 8 with gq | gq
              · rcases Nat.lt_or_ge q 4 with gq | gq
                · rcases Nat.lt_or_ge q 2 with gq | gq
                  · rcases Nat.lt_or_ge q 1 with gq | gq
                    · obtain rfl : q = 0 := by omega
                      exact fhgt_8_0
                    · obtain rfl : q = 1 := by omega
                      exact fhgt_8_1
                  · rcases Nat.lt_or_ge q 3 with gq | gq
                    · obtain rfl : q = 2 := by omega
                      exact fhgt_8_2
                    · obtain rfl : q = 3 := by omega
                      exact fhgt_8_3
                · rcases Nat.lt_or_ge q 6 with gq | gq
                  · rcases Nat.lt_or_ge q 5 with gq | gq
                    · obtain rfl : q = 4 := by omega
                      exact fhgt_8_4
                    · obtain rfl : q = 5 := by omega
                      exact fhgt_8_5
                  · rcases Nat.lt_or_ge q 7 with gq | gq
                    · obtain rfl : q = 6 := by omega
                      exact fhgt_8_6
                    · obtain rfl : q = 7 := by omega
                      exact fhgt_8_7
              · rcases Nat.lt_or_ge q 12 with gq | gq
                · rcases Nat.lt_or_ge q 10 with gq | gq
                  · rcases Nat.lt_or_ge q 9 with gq | gq
                    · obtain rfl : q = 8 := by omega
                      exact fhgt_8_8
                    · obtain rfl : q = 9 := by omega
                      exact fhgt_8_9
                  · rcases Nat.lt_or_ge q 11 with gq | gq
                    · obtain rfl : q = 10 := by omega
                      exact fhgt_8_10
                    · obtain rfl : q = 11 := by omega
                      exact fhgt_8_11
                · rcases Nat.lt_or_ge q 14 with gq | gq
                  · rcases Nat.lt_or_ge q 13 with gq | gq
                    · obtain rfl : q = 12 := by omega
                      exact fhgt_8_12
                    · obtain rfl : q = 13 := by omega
                      exact fhgt_8_13
                  · rcases Nat.lt_or_ge q 15 with gq | gq
                    · obtain rfl : q = 14 := by omega
                      exact fhgt_8_14
                    · obtain rfl : q = 15 := by omega
                      exact fhgt_8_15
            · rcases Nat.lt_or_ge q 24 with gq | gq
              · rcases Nat.lt_or_ge q 20 with gq | gq
                · rcases Nat.lt_or_ge q 18 with gq | gq
                  · rcases Nat.lt_or_ge q 17 with gq | gq
                    · obtain rfl : q = 16 := by omega
                      exact fhgt_8_16
                    · obtain rfl : q = 17 := by omega
                      exact fhgt_8_17
                  · rcases Nat.lt_or_ge q 19 with gq | gq
                    · obtain rfl : q = 18 := by omega
                      exact fhgt_8_18
                    · obtain rfl : q = 19 := by omega
                      exact fhgt_8_19
                · rcases Nat.lt_or_ge q 22 with gq | gq
                  · rcases Nat.lt_or_ge q 21 with gq | gq
                    · obtain rfl : q = 20 := by omega
                      exact fhgt_8_20
                    · obtain rfl : q = 21 := by omega
                      exact fhgt_8_21
                  · rcases Nat.lt_or_ge q 23 with gq | gq
                    · obtain rfl : q = 22 := by omega
                      exact fhgt_8_22
                    · obtain rfl : q = 23 := by omega
                      exact fhgt_8_23
              · rcases Nat.lt_or_ge q 28 with gq | gq
                · rcases Nat.lt_or_ge q 26 with gq | gq
                  · rcases Nat.lt_or_ge q 25 with gq | gq
                    · obtain rfl : q = 24 := by omega
                      exact fhgt_8_24
                    · obtain rfl : q = 25 := by omega
                      exact fhgt_8_25
                  · rcases Nat.lt_or_ge q 27 with gq | gq
                    · obtain rfl : q = 26 := by omega
                      exact fhgt_8_26
                    · obtain rfl : q = 27 := by omega
                      exact fhgt_8_27
                · rcases Nat.lt_or_ge q 30 with gq | gq
                  · rcases Nat.lt_or_ge q 29 with gq | gq
                    · obtain rfl : q = 28 := by omega
                      exact fhgt_8_28
                    · obtain rfl : q = 29 := by omega
                      exact fhgt_8_29
                  · rcases Nat.lt_or_ge q 31 with gq | gq
                    · obtain rfl : q = 30 := by omega
                      exact fhgt_8_30
                    · obtain rfl : q = 31 := by omega
                      exact fhgt_8_31
          · obtain rfl : p = 9 := by omega
            rcases Nat.lt_or_ge q 16 with gq | gq
            · rcases Nat.lt_or_ge q 8 with gq | gq
              · rcases Nat.lt_or_ge q 4 with gq | gq
                · rcases Nat.lt_or_ge q 2 with gq | gq
                  · rcases Nat.lt_or_ge q 1 with gq | gq
                    · obtain rfl : q = 0 := by omega
                      exact fhgt_9_0
                    · obtain rfl : q = 1 := by omega
                      exact fhgt_9_1
                  · rcases Nat.lt_or_ge q 3 with gq | gq
                    · obtain rfl : q = 2 := by omega
                      exact fhgt_9_2
                    · obtain rfl : q = 3 := by omega
                      exact fhgt_9_3
                · rcases Nat.lt_or_ge q 6 with gq | gq
                  · rcases Nat.lt_or_ge q 5 with gq | gq
                    · obtain rfl : q = 4 := by omega
                      exact fhgt_9_4
                    · obtain rfl : q = 5 := by omega
                      exact fhgt_9_5
                  · rcases Nat.lt_or_ge q 7 with gq | gq
                    · obtain rfl : q = 6 := by omega
                      exact fhgt_9_6
                    · obtain rfl : q = 7 := by omega
                      exact fhgt_9_7
              · rcases Nat.lt_or_ge q 12 with gq | gq
                · rcases Nat.lt_or_ge q 10 with gq | gq
                  · rcases Nat.lt_or_ge q 9 with gq | gq
                    · obtain rfl : q = 8 := by omega
                      exact fhgt_9_8
                    · obtain rfl : q = 9 := by omega
                      exact fhgt_9_9
                  · rcases Nat.lt_or_ge q 11 with gq | gq
                    · obtain rfl : q = 10 := by omega
                      exact fhgt_9_10
                    · obtain rfl : q = 11 := by omega
                      exact fhgt_9_11
                · rcases Nat.lt_or_ge q 14 with gq | gq
                  · rcases Nat.lt_or_ge q 13 with gq | gq
                    · obtain rfl : q = 12 := by omega
                      exact fhgt_9_12
                    · obtain rfl : q = 13 := by omega
                      exact fhgt_9_13
                  · rcases Nat.lt_or_ge q 15 with gq | gq
                    · obtain rfl : q = 14 := by omega
                      exact fhgt_9_14
                    · obtain rfl : q = 15 := by omega
                      exact fhgt_9_15
            · rcases Nat.lt_or_ge q 24 with gq | gq
              · rcases Nat.lt_or_ge q 20 with gq | gq
                · rcases Nat.lt_or_ge q 18 with gq | gq
                  · rcases Nat.lt_or_ge q 17 with gq | gq
                    · obtain rfl : q = 16 := by omega
                      exact fhgt_9_16
                    · obtain rfl : q = 17 := by omega
                      exact fhgt_9_17
                  · rcases Nat.lt_or_ge q 19 with gq | gq
                    · obtain rfl : q = 18 := by omega
                      exact fhgt_9_18
                    · obtain rfl : q = 19 := by omega
                      exact fhgt_9_19
                · rcases Nat.lt_or_ge q 22 with gq | gq
                  · rcases Nat.lt_or_ge q 21 with gq | gq
                    · obtain rfl : q = 20 := by omega
                      exact fhgt_9_20
                    · obtain rfl : q = 21 := by omega
                      exact fhgt_9_21
                  · rcases Nat.lt_or_ge q 23 with gq | gq
                    · obtain rfl : q = 22 := by omega
                      exact fhgt_9_22
                    · obtain rfl : q = 23 := by omega
                      exact fhgt_9_23
              · rcases Nat.lt_or_ge q 28 with gq | gq
                · rcases Nat.lt_or_ge q 26 with gq | gq
                  · rcases Nat.lt_or_ge q 25 with gq | gq
                    · obtain rfl : q = 24 := by omega
                      exact fhgt_9_24
                    · obtain rfl : q = 25 := by omega
                      exact fhgt_9_25
                  · rcases Nat.lt_or_ge q 27 with gq | gq
                    · obtain rfl : q = 26 := by omega
                      exact fhgt_9_26
                    · obtain rfl : q = 27 := by omega
                      exact fhgt_9_27
                · rcases Nat.lt_or_ge q 30 with gq | gq
                  · rcases Nat.lt_or_ge q 29 with gq | gq
                    · obtain rfl : q = 28 := by omega
                      exact fhgt_9_28
                    · obtain rfl : q = 29 := by omega
                      exact fhgt_9_29
                  · rcases Nat.lt_or_ge q 31 with gq | gq
                    · obtain rfl : q = 30 := by omega
                      exact fhgt_9_30
                    · obtain rfl : q = 31 := by omega
                      exact fhgt_9_31
        · rcases Nat.lt_or_ge p 11 with gp | gp
          · obtain rfl : p = 10 := by omega
            rcases Nat.lt_or_ge q 16 with gq | gq
            · rcases Nat.lt_or_ge q 8 with gq | gq
              · rcases Nat.lt_or_ge q 4 with gq | gq
                · rcases Nat.lt_or_ge q 2 with gq | gq
                  · rcases Nat.lt_or_ge q 1 with gq | gq
                    · obtain rfl : q = 0 := by omega
                      exact fhgt_10_0
                    · obtain rfl : q = 1 := by omega
                      exact fhgt_10_1
                  · rcases Nat.lt_or_ge q 3 with gq | gq
                    · obtain rfl : q = 2 := by omega
                      exact fhgt_10_2
                    · obtain rfl : q = 3 := by omega
                      exact fhgt_10_3
                · rcases Nat.lt_or_ge q 6 with gq | gq
                  · rcases Nat.lt_or_ge q 5 with gq | gq
                    · obtain rfl : q = 4 := by omega
                      exact fhgt_10_4
                    · obtain rfl : q = 5 := by omega
                      exact fhgt_10_5
                  · rcases Nat.lt_or_ge q 7 with gq | gq
                    · obtain rfl : q = 6 := by omega
                      exact fhgt_10_6
                    · obtain rfl : q = 7 := by omega
                      exact fhgt_10_7
              · rcases Nat.lt_or_ge q 12 with gq | gq
                · rcases Nat.lt_or_ge q 10 with gq | gq
                  · rcases Nat.lt_or_ge q 9 with gq | gq
                    · obtain rfl : q = 8 := by omega
                      exact fhgt_10_8
                    · obtain rfl : q = 9 := by omega
                      exact fhgt_10_9
                  · rcases Nat.lt_or_ge q 11 with gq | gq
                    · obtain rfl : q = 10 := by omega
                      exact fhgt_10_10
                    · obtain rfl : q = 11 := by omega
                      exact fhgt_10_11
                · rcases Nat.lt_or_ge q 14 with gq | gq
                  · rcases Nat.lt_or_ge q 13 with gq | gq
                    · obtain rfl : q = 12 := by omega
                      exact fhgt_10_12
                    · obtain rfl : q = 13 := by omega
                      exact fhgt_10_13
                  · rcases Nat.lt_or_ge q 15 with gq | gq
                    · obtain rfl : q = 14 := by omega
                      exact fhgt_10_14
                    · obtain rfl : q = 15 := by omega
                      exact fhgt_10_15
            · rcases Nat.lt_or_ge q 24 with gq | gq
              · rcases Nat.lt_or_ge q 20 with gq | gq
                · rcases Nat.lt_or_ge q 18 with gq | gq
                  · rcases Nat.lt_or_ge q 17 with gq | gq
                    · obtain rfl : q = 16 := by omega
                      exact fhgt_10_16
                    · obtain rfl : q = 17 := by omega
                      exact fhgt_10_17
                  · rcases Nat.lt_or_ge q 19 with gq | gq
                    · obtain rfl : q = 18 := by omega
                      exact fhgt_10_18
                    · obtain rfl : q = 19 := by omega
                      exact fhgt_10_19
                · rcases Nat.lt_or_ge q 22 with gq | gq
                  · rcases Nat.lt_or_ge q 21 with gq | gq
                    · obtain rfl : q = 20 := by omega
                      exact fhgt_10_20
                    · obtain rfl : q = 21 := by omega
                      exact fhgt_10_21
                  · rcases Nat.lt_or_ge q 23 with gq | gq
                    · obtain rfl : q = 22 := by omega
                      exact fhgt_10_22
                    · obtain rfl : q = 23 := by omega
                      exact fhgt_10_23
              · rcases Nat.lt_or_ge q 28 with gq | gq
                · rcases Nat.lt_or_ge q 26 with gq | gq
                  · rcases Nat.lt_or_ge q 25 with gq | gq
                    · obtain rfl : q = 24 := by omega
                      exact fhgt_10_24
                    · obtain rfl : q = 25 := by omega
                      exact fhgt_10_25
                  · rcases Nat.lt_or_ge q 27 with gq | gq
                    · obtain rfl : q = 26 := by omega
                      exact fhgt_10_26
                    · obtain rfl : q = 27 := by omega
                      exact fhgt_10_27
                · rcases Nat.lt_or_ge q 30 with gq | gq
                  · rcases Nat.lt_or_ge q 29 with gq | gq
                    · obtain rfl : q = 28 := by omega
                      exact fhgt_10_28
                    · obtain rfl : q = 29 := by omega
                      exact fhgt_10_29
                  · rcases Nat.lt_or_ge q 31 with gq | gq
                    · obtain rfl : q = 30 := by omega
                      exact fhgt_10_30
                    · obtain rfl : q = 31 := by omega
                      exact fhgt_10_31
          · obtain rfl : p = 11 := by omega
            rcases Nat.lt_or_ge q 16 with gq | gq
            · rcases Nat.lt_or_ge q 8 with gq | gq
              · rcases Nat.lt_or_ge q 4 with gq | gq
                · rcases Nat.lt_or_ge q 2 with gq | gq
                  · rcases Nat.lt_or_ge q 1 with gq | gq
                    · obtain rfl : q = 0 := by omega
                      exact fhgt_11_0
                    · obtain rfl : q = 1 := by omega
                      exact fhgt_11_1
                  · rcases Nat.lt_or_ge q 3 with gq | gq
                    · obtain rfl : q = 2 := by omega
                      exact fhgt_11_2
                    · obtain rfl : q = 3 := by omega
                      exact fhgt_11_3
                · rcases Nat.lt_or_ge q 6 with gq | gq
                  · rcases Nat.lt_or_ge q 5 with gq | gq
                    · obtain rfl : q = 4 := by omega
                      exact fhgt_11_4
                    · obtain rfl : q = 5 := by omega
                      exact fhgt_11_5
                  · rcases Nat.lt_or_ge q 7 with gq | gq
                    · obtain rfl : q = 6 := by omega
                      exact fhgt_11_6
                    · obtain rfl : q = 7 := by omega
                      exact fhgt_11_7
              · rcases Nat.lt_or_ge q 12 with gq | gq
                · rcases Nat.lt_or_ge q 10 with gq | gq
                  · rcases Nat.lt_or_ge q 9 with gq | gq
                    · obtain rfl : q = 8 := by omega
                      exact fhgt_11_8
                    · obtain rfl : q = 9 := by omega
                      exact fhgt_11_9
                  · rcases Nat.lt_or_ge q 11 with gq | gq
                    · obtain rfl : q = 10 := by omega
                      exact fhgt_11_10
                    · obtain rfl : q = 11 := by omega
                      exact fhgt_11_11
                · rcases Nat.lt_or_ge q 14 with gq | gq
                  · rcases Nat.lt_or_ge q 13 with gq | gq
                    · obtain rfl : q = 12 := by omega
                      exact fhgt_11_12
                    · obtain rfl : q = 13 := by omega
                      exact fhgt_11_13
                  · rcases Nat.lt_or_ge q 15 with gq | gq
                    · obtain rfl : q = 14 := by omega
                      exact fhgt_11_14
                    · obtain rfl : q = 15 := by omega
                      exact fhgt_11_15
            · rcases Nat.lt_or_ge q 24 with gq | gq
              · rcases Nat.lt_or_ge q 20 with gq | gq
                · rcases Nat.lt_or_ge q 18 with gq | gq
                  · rcases Nat.lt_or_ge q 17 with gq | gq
                    · obtain rfl : q = 16 := by omega
                      exact fhgt_11_16
                    · obtain rfl : q = 17 := by omega
                      exact fhgt_11_17
                  · rcases Nat.lt_or_ge q 19 with gq | gq
                    · obtain rfl : q = 18 := by omega
                      exact fhgt_11_18
                    · obtain rfl : q = 19 := by omega
                      exact fhgt_11_19
                · rcases Nat.lt_or_ge q 22 with gq | gq
                  · rcases Nat.lt_or_ge q 21 with gq | gq
                    · obtain rfl : q = 20 := by omega
                      exact fhgt_11_20
                    · obtain rfl : q = 21 := by omega
                      exact fhgt_11_21
                  · rcases Nat.lt_or_ge q 23 with gq | gq
                    · obtain rfl : q = 22 := by omega
                      exact fhgt_11_22
                    · obtain rfl : q = 23 := by omega
                      exact fhgt_11_23
              · rcases Nat.lt_or_ge q 28 with gq | gq
                · rcases Nat.lt_or_ge q 26 with gq | gq
                  · rcases Nat.lt_or_ge q 25 with gq | gq
                    · obtain rfl : q = 24 := by omega
                      exact fhgt_11_24
                    · obtain rfl : q = 25 := by omega
                      exact fhgt_11_25
                  · rcases Nat.lt_or_ge q 27 with gq | gq
                    · obtain rfl : q = 26 := by omega
                      exact fhgt_11_26
                    · obtain rfl : q = 27 := by omega
                      exact fhgt_11_27
                · rcases Nat.lt_or_ge q 30 with gq | gq
                  · rcases Nat.lt_or_ge q 29 with gq | gq
                    · obtain rfl : q = 28 := by omega
                      exact fhgt_11_28
                    · obtain rfl : q = 29 := by omega
                      exact fhgt_11_29
                  · rcases Nat.lt_or_ge q 31 with gq | gq
                    · obtain rfl : q = 30 := by omega
                      exact fhgt_11_30
                    · obtain rfl : q = 31 := by omega
                      exact fhgt_11_31
      · rcases Nat.lt_or_ge p 14 with gp | gp
        · rcases Nat.lt_or_ge p 13 with gp | gp
          · obtain rfl : p = 12 := by omega
            rcases Nat.lt_or_ge q 16 with gq | gq
            · rcases Nat.lt_or_ge q 8 with gq | gq
              · rcases Nat.lt_or_ge q 4 with gq | gq
                · rcases Nat.lt_or_ge q 2 with gq | gq
                  · rcases Nat.lt_or_ge q 1 with gq | gq
                    · obtain rfl : q = 0 := by omega
                      exact fhgt_12_0
                    · obtain rfl : q = 1 := by omega
                      exact fhgt_12_1
                  · rcases Nat.lt_or_ge q 3 with gq | gq
                    · obtain rfl : q = 2 := by omega
                      exact fhgt_12_2
                    · obtain rfl : q = 3 := by omega
                      exact fhgt_12_3
                · rcases Nat.lt_or_ge q 6 with gq | gq
                  · rcases Nat.lt_or_ge q 5 with gq | gq
                    · obtain rfl : q = 4 := by omega
                      exact fhgt_12_4
                    · obtain rfl : q = 5 := by omega
                      exact fhgt_12_5
                  · rcases Nat.lt_or_ge q 7 with gq | gq
                    · obtain rfl : q = 6 := by omega
                      exact fhgt_12_6
                    · obtain rfl : q = 7 := by omega
                      exact fhgt_12_7
              · rcases Nat.lt_or_ge q 12 with gq | gq
                · rcases Nat.lt_or_ge q 10 with gq | gq
                  · rcases Nat.lt_or_ge q 9 with gq | gq
                    · obtain rfl : q = 8 := by omega
                      exact fhgt_12_8
                    · obtain rfl : q = 9 := by omega
                      exact fhgt_12_9
                  · rcases Nat.lt_or_ge q 11 with gq | gq
                    · obtain rfl : q = 10 := by omega
                      exact fhgt_12_10
                    · obtain rfl : q = 11 := by omega
                      exact fhgt_12_11
                · rcases Nat.lt_or_ge q 14 with gq | gq
                  · rcases Nat.lt_or_ge q 13 with gq | gq
                    · obtain rfl : q = 12 := by omega
                      exact fhgt_12_12
                    · obtain rfl : q = 13 := by omega
                      exact fhgt_12_13
                  · rcases Nat.lt_or_ge q 15 with gq | gq
                    · obtain rfl : q = 14 := by omega
                      exact fhgt_12_14
                    · obtain rfl : q = 15 := by omega
                      exact fhgt_12_15
            · rcases Nat.lt_or_ge q 24 with gq | gq
              · rcases Nat.lt_or_ge q 20 with gq | gq
                · rcases Nat.lt_or_ge q 18 with gq | gq
                  · rcases Nat.lt_or_ge q 17 with gq | gq
                    · obtain rfl : q = 16 := by omega
                      exact fhgt_12_16
                    · obtain rfl : q = 17 := by omega
                      exact fhgt_12_17
                  · rcases Nat.lt_or_ge q 19 with gq | gq
                    · obtain rfl : q = 18 := by omega
                      exact fhgt_12_18
                    · obtain rfl : q = 19 := by omega
                      exact fhgt_12_19
                · rcases Nat.lt_or_ge q 22 with gq | gq
                  · rcases Nat.lt_or_ge q 21 with gq | gq
                    · obtain rfl : q = 20 := by omega
                      exact fhgt_12_20
                    · obtain rfl : q = 21 := by omega
                      exact fhgt_12_21
                  · rcases Nat.lt_or_ge q 23 with gq | gq
                    · obtain rfl : q = 22 := by omega
                      exact fhgt_12_22
                    · obtain rfl : q = 23 := by omega
                      exact fhgt_12_23
              · rcases Nat.lt_or_ge q 28 with gq | gq
                · rcases Nat.lt_or_ge q 26 with gq | gq
                  · rcases Nat.lt_or_ge q 25 with gq | gq
                    · obtain rfl : q = 24 := by omega
                      exact fhgt_12_24
                    · obtain rfl : q = 25 := by omega
                      exact fhgt_12_25
                  · rcases Nat.lt_or_ge q 27 with gq | gq
                    · obtain rfl : q = 26 := by omega
                      exact fhgt_12_26
                    · obtain rfl : q = 27 := by omega
                      exact fhgt_12_27
                · rcases Nat.lt_or_ge q 30 with gq | gq
                  · rcases Nat.lt_or_ge q 29 with gq | gq
                    · obtain rfl : q = 28 := by omega
                      exact fhgt_12_28
                    · obtain rfl : q = 29 := by omega
                      exact fhgt_12_29
                  · rcases Nat.lt_or_ge q 31 with gq | gq
                    · obtain rfl : q = 30 := by omega
                      exact fhgt_12_30
                    · obtain rfl : q = 31 := by omega
                      exact fhgt_12_31
          · obtain rfl : p = 13 := by omega
            rcases Nat.lt_or_ge q 16 with gq | gq
            · rcases Nat.lt_or_ge q 8 with gq | gq
              · rcases Nat.lt_or_ge q 4 with gq | gq
                · rcases Nat.lt_or_ge q 2 with gq | gq
                  · rcases Nat.lt_or_ge q 1 with gq | gq
                    · obtain rfl : q = 0 := by omega
                      exact fhgt_13_0
                    · obtain rfl : q = 1 := by omega
                      exact fhgt_13_1
                  · rcases Nat.lt_or_ge q 3 with gq | gq
                    · obtain rfl : q = 2 := by omega
                      exact fhgt_13_2
                    · obtain rfl : q = 3 := by omega
                      exact fhgt_13_3
                · rcases Nat.lt_or_ge q 6 with gq | gq
                  · rcases Nat.lt_or_ge q 5 with gq | gq
                    · obtain rfl : q = 4 := by omega
                      exact fhgt_13_4
                    · obtain rfl : q = 5 := by omega
                      exact fhgt_13_5
                  · rcases Nat.lt_or_ge q 7 with gq | gq
                    · obtain rfl : q = 6 := by omega
                      exact fhgt_13_6
                    · obtain rfl : q = 7 := by omega
                      exact fhgt_13_7
              · rcases Nat.lt_or_ge q 12 with gq | gq
                · rcases Nat.lt_or_ge q 10 with gq | gq
                  · rcases Nat.lt_or_ge q 9 with gq | gq
                    · obtain rfl : q = 8 := by omega
                      exact fhgt_13_8
                    · obtain rfl : q = 9 := by omega
                      exact fhgt_13_9
                  · rcases Nat.lt_or_ge q 11 with gq | gq
                    · obtain rfl : q = 10 := by omega
                      exact fhgt_13_10
                    · obtain rfl : q = 11 := by omega
                      exact fhgt_13_11
                · rcases Nat.lt_or_ge q 14 with gq | gq
                  · rcases Nat.lt_or_ge q 13 with gq | gq
                    · obtain rfl : q = 12 := by omega
                      exact fhgt_13_12
                    · obtain rfl : q = 13 := by omega
                      exact fhgt_13_13
                  · rcases Nat.lt_or_ge q 15 with gq | gq
                    · obtain rfl : q = 14 := by omega
                      exact fhgt_13_14
                    · obtain rfl : q = 15 := by omega
                      exact fhgt_13_15
            · rcases Nat.lt_or_ge q 24 with gq | gq
              · rcases Nat.lt_or_ge q 20 with gq | gq
                · rcases Nat.lt_or_ge q 18 with gq | gq
                  · rcases Nat.lt_or_ge q 17 with gq | gq
                    · obtain rfl : q = 16 := by omega
                      exact fhgt_13_16
                    · obtain rfl : q = 17 := by omega
                      exact fhgt_13_17
                  · rcases Nat.lt_or_ge q 19 with gq | gq
                    · obtain rfl : q = 18 := by omega
                      exact fhgt_13_18
                    · obtain rfl : q = 19 := by omega
                      exact fhgt_13_19
                · rcases Nat.lt_or_ge q 22 with gq | gq
                  · rcases Nat.lt_or_ge q 21 with gq | gq
                    · obtain rfl : q = 20 := by omega
                      exact fhgt_13_20
                    · obtain rfl : q = 21 := by omega
                      exact fhgt_13_21
                  · rcases Nat.lt_or_ge q 23 with gq | gq
                    · obtain rfl : q = 22 := by omega
                      exact fhgt_13_22
                    · obtain rfl : q = 23 := by omega
                      exact fhgt_13_23
              · rcases Nat.lt_or_ge q 28 with gq | gq
                · rcases Nat.lt_or_ge q 26 with gq | gq
                  · rcases Nat.lt_or_ge q 25 with gq | gq
                    · obtain rfl : q = 24 := by omega
                      exact fhgt_13_24
                    · obtain rfl : q = 25 := by omega
                      exact fhgt_13_25
                  · rcases Nat.lt_or_ge q 27 with gq | gq
                    · obtain rfl : q = 26 := by omega
                      exact fhgt_13_26
                    · obtain rfl : q = 27 := by omega
                      exact fhgt_13_27
                · rcases Nat.lt_or_ge q 30 with gq | gq
                  · rcases Nat.lt_or_ge q 29 with gq | gq
                    · obtain rfl : q = 28 := by omega
                      exact fhgt_13_28
                    · obtain rfl : q = 29 := by omega
                      exact fhgt_13_29
                  · rcases Nat.lt_or_ge q 31 with gq | gq
                    · obtain rfl : q = 30 := by omega
                      exact fhgt_13_30
                    · obtain rfl : q = 31 := by omega
                      exact fhgt_13_31
        · rcases Nat.lt_or_ge p 15 with gp | gp
          · obtain rfl : p = 14 := by omega
            rcases Nat.lt_or_ge q 16 with gq | gq
            · rcases Nat.lt_or_ge q 8 with gq | gq
              · rcases Nat.lt_or_ge q 4 with gq | gq
                · rcases Nat.lt_or_ge q 2 with gq | gq
                  · rcases Nat.lt_or_ge q 1 with gq | gq
                    · obtain rfl : q = 0 := by omega
                      exact fhgt_14_0
                    · obtain rfl : q = 1 := by omega
                      exact fhgt_14_1
                  · rcases Nat.lt_or_ge q 3 with gq | gq
                    · obtain rfl : q = 2 := by omega
                      exact fhgt_14_2
                    · obtain rfl : q = 3 := by omega
                      exact fhgt_14_3
                · rcases Nat.lt_or_ge q 6 with gq | gq
                  · rcases Nat.lt_or_ge q 5 with gq | gq
                    · obtain rfl : q = 4 := by omega
                      exact fhgt_14_4
                    · obtain rfl : q = 5 := by omega
                      exact fhgt_14_5
                  · rcases Nat.lt_or_ge q 7 with gq | gq
                    · obtain rfl : q = 6 := by omega
                      exact fhgt_14_6
                    · obtain rfl : q = 7 := by omega
                      exact fhgt_14_7
              · rcases Nat.lt_or_ge q 12 with gq | gq
                · rcases Nat.lt_or_ge q 10 with gq | gq
                  · rcases Nat.lt_or_ge q 9 with gq | gq
                    · obtain rfl : q = 8 := by omega
                      exact fhgt_14_8
                    · obtain rfl : q = 9 := by omega
                      exact fhgt_14_9
                  · rcases Nat.lt_or_ge q 11 with gq | gq
                    · obtain rfl : q = 10 := by omega
                      exact fhgt_14_10
                    · obtain rfl : q = 11 := by omega
                      exact fhgt_14_11
                · rcases Nat.lt_or_ge q 14 with gq | gq
                  · rcases Nat.lt_or_ge q 13 with gq | gq
                    · obtain rfl : q = 12 := by omega
                      exact fhgt_14_12
                    · obtain rfl : q = 13 := by omega
                      exact fhgt_14_13
                  · rcases Nat.lt_or_ge q 15 with gq | gq
                    · obtain rfl : q = 14 := by omega
                      exact fhgt_14_14
                    · obtain rfl : q = 15 := by omega
                      exact fhgt_14_15
            · rcases Nat.lt_or_ge q 24 with gq | gq
              · rcases Nat.lt_or_ge q 20 with gq | gq
                · rcases Nat.lt_or_ge q 18 with gq | gq
                  · rcases Nat.lt_or_ge q 17 with gq | gq
                    · obtain rfl : q = 16 := by omega
                      exact fhgt_14_16
                    · obtain rfl : q = 17 := by omega
                      exact fhgt_14_17
                  · rcases Nat.lt_or_ge q 19 with gq | gq
                    · obtain rfl : q = 18 := by omega
                      exact fhgt_14_18
                    · obtain rfl : q = 19 := by omega
                      exact fhgt_14_19
                · rcases Nat.lt_or_ge q 22 with gq | gq
                  · rcases Nat.lt_or_ge q 21 with gq | gq
                    · obtain rfl : q = 20 := by omega
                      exact fhgt_14_20
                    · obtain rfl : q = 21 := by omega
                      exact fhgt_14_21
                  · rcases Nat.lt_or_ge q 23 with gq | gq
                    · obtain rfl : q = 22 := by omega
                      exact fhgt_14_22
                    · obtain rfl : q = 23 := by omega
                      exact fhgt_14_23
              · rcases Nat.lt_or_ge q 28 with gq | gq
                · rcases Nat.lt_or_ge q 26 with gq | gq
                  · rcases Nat.lt_or_ge q 25 with gq | gq
                    · obtain rfl : q = 24 := by omega
                      exact fhgt_14_24
                    · obtain rfl : q = 25 := by omega
                      exact fhgt_14_25
                  · rcases Nat.lt_or_ge q 27 with gq | gq
                    · obtain rfl : q = 26 := by omega
                      exact fhgt_14_26
                    · obtain rfl : q = 27 := by omega
                      exact fhgt_14_27
                · rcases Nat.lt_or_ge q 30 with gq | gq
                  · rcases Nat.lt_or_ge q 29 with gq | gq
                    · obtain rfl : q = 28 := by omega
                      exact fhgt_14_28
                    · obtain rfl : q = 29 := by omega
                      exact fhgt_14_29
                  · rcases Nat.lt_or_ge q 31 with gq | gq
                    · obtain rfl : q = 30 := by omega
                      exact fhgt_14_30
                    · obtain rfl : q = 31 := by omega
                      exact fhgt_14_31
          · obtain rfl : p = 15 := by omega
            rcases Nat.lt_or_ge q 16 with gq | gq
            · rcases Nat.lt_or_ge q 8 with gq | gq
              · rcases Nat.lt_or_ge q 4 with gq | gq
                · rcases Nat.lt_or_ge q 2 with gq | gq
                  · rcases Nat.lt_or_ge q 1 with gq | gq
                    · obtain rfl : q = 0 := by omega
                      exact fhgt_15_0
                    · obtain rfl : q = 1 := by omega
                      exact fhgt_15_1
                  · rcases Nat.lt_or_ge q 3 with gq | gq
                    · obtain rfl : q = 2 := by omega
                      exact fhgt_15_2
                    · obtain rfl : q = 3 := by omega
                      exact fhgt_15_3
                · rcases Nat.lt_or_ge q 6 with gq | gq
                  · rcases Nat.lt_or_ge q 5 with gq | gq
                    · obtain rfl : q = 4 := by omega
                      exact fhgt_15_4
                    · obtain rfl : q = 5 := by omega
                      exact fhgt_15_5
                  · rcases Nat.lt_or_ge q 7 with gq | gq
                    · obtain rfl : q = 6 := by omega
                      exact fhgt_15_6
                    · obtain rfl : q = 7 := by omega
                      exact fhgt_15_7
              · rcases Nat.lt_or_ge q 12 with gq | gq
                · rcases Nat.lt_or_ge q 10 with gq | gq
                  · rcases Nat.lt_or_ge q 9 with gq | gq
                    · obtain rfl : q = 8 := by omega
                      exact fhgt_15_8
                    · obtain rfl : q = 9 := by omega
                      exact fhgt_15_9
                  · rcases Nat.lt_or_ge q 11 with gq | gq
                    · obtain rfl : q = 10 := by omega
                      exact fhgt_15_10
                    · obtain rfl : q = 11 := by omega
                      exact fhgt_15_11
                · rcases Nat.lt_or_ge q 14 with gq | gq
                  · rcases Nat.lt_or_ge q 13 with gq | gq
                    · obtain rfl : q = 12 := by omega
                      exact fhgt_15_12
                    · obtain rfl : q = 13 := by omega
                      exact fhgt_15_13
                  · rcases Nat.lt_or_ge q 15 with gq | gq
                    · obtain rfl : q = 14 := by omega
                      exact fhgt_15_14
                    · obtain rfl : q = 15 := by omega
                      exact fhgt_15_15
            · rcases Nat.lt_or_ge q 24 with gq | gq
              · rcases Nat.lt_or_ge q 20 with gq | gq
                · rcases Nat.lt_or_ge q 18 with gq | gq
                  · rcases Nat.lt_or_ge q 17 with gq | gq
                    · obtain rfl : q = 16 := by omega
                      exact fhgt_15_16
                    · obtain rfl : q = 17 := by omega
                      exact fhgt_15_17
                  · rcases Nat.lt_or_ge q 19 with gq | gq
                    · obtain rfl : q = 18 := by omega
                      exact fhgt_15_18
                    · obtain rfl : q = 19 := by omega
                      exact fhgt_15_19
                · rcases Nat.lt_or_ge q 22 with gq | gq
                  · rcases Nat.lt_or_ge q 21 with gq | gq
                    · obtain rfl : q = 20 := by omega
                      exact fhgt_15_20
                    · obtain rfl : q = 21 := by omega
                      exact fhgt_15_21
                  · rcases Nat.lt_or_ge q 23 with gq | gq
                    · obtain rfl : q = 22 := by omega
                      exact fhgt_15_22
                    · obtain rfl : q = 23 := by omega
                      exact fhgt_15_23
              · rcases Nat.lt_or_ge q 28 with gq | gq
                · rcases Nat.lt_or_ge q 26 with gq | gq
                  · rcases Nat.lt_or_ge q 25 with gq | gq
                    · obtain rfl : q = 24 := by omega
                      exact fhgt_15_24
                    · obtain rfl : q = 25 := by omega
                      exact fhgt_15_25
                  · rcases Nat.lt_or_ge q 27 with gq | gq
                    · obtain rfl : q = 26 := by omega
                      exact fhgt_15_26
                    · obtain rfl : q = 27 := by omega
                      exact fhgt_15_27
                · rcases Nat.lt_or_ge q 30 with gq | gq
                  · rcases Nat.lt_or_ge q 29 with gq | gq
                    · obtain rfl : q = 28 := by omega
                      exact fhgt_15_28
                    · obtain rfl : q = 29 := by omega
                      exact fhgt_15_29
                  · rcases Nat.lt_or_ge q 31 with gq | gq
                    · obtain rfl : q = 30 := by omega
                      exact fhgt_15_30
                    · obtain rfl : q = 31 := by omega
                      exact fhgt_15_31
  · rcases Nat.lt_or_ge p 24 with gp | gp
    · rcases Nat.lt_or_ge p 20 with gp | gp
      · rcases Nat.lt_or_ge p 18 with gp | gp
        · rcases Nat.lt_or_ge p 17 with gp | gp
          · obtain rfl : p = 16 := by omega
            rcases Nat.lt_or_ge q 16 with gq | gq
            · rcases Nat.lt_or_ge q 8 with gq | gq
              · rcases Nat.lt_or_ge q 4 with gq | gq
                · rcases Nat.lt_or_ge q 2 with gq | gq
                  · rcases Nat.lt_or_ge q 1 with gq | gq
                    · obtain rfl : q = 0 := by omega
                      exact fhgt_16_0
                    · obtain rfl : q = 1 := by omega
                      exact fhgt_16_1
                  · rcases Nat.lt_or_ge q 3 with gq | gq
                    · obtain rfl : q = 2 := by omega
                      exact fhgt_16_2
                    · obtain rfl : q = 3 := by omega
                      exact fhgt_16_3
                · rcases Nat.lt_or_ge q 6 with gq | gq
                  · rcases Nat.lt_or_ge q 5 with gq | gq
                    · obtain rfl : q = 4 := by omega
                      exact fhgt_16_4
                    · obtain rfl : q = 5 := by omega
                      exact fhgt_16_5
                  · rcases Nat.lt_or_ge q 7 with gq | gq
                    · obtain rfl : q = 6 := by omega
                      exact fhgt_16_6
                    · obtain rfl : q = 7 := by omega
                      exact fhgt_16_7
              · rcases Nat.lt_or_ge q 12 with gq | gq
                · rcases Nat.lt_or_ge q 10 with gq | gq
                  · rcases Nat.lt_or_ge q 9 with gq | gq
                    · obtain rfl : q = 8 := by omega
                      exact fhgt_16_8
                    · obtain rfl : q = 9 := by omega
                      exact fhgt_16_9
                  · rcases Nat.lt_or_ge q 11 with gq | gq
                    · obtain rfl : q = 10 := by omega
                      exact fhgt_16_10
                    · obtain rfl : q = 11 := by omega
                      exact fhgt_16_11
                · rcases Nat.lt_or_ge q 14 with gq | gq
                  · rcases Nat.lt_or_ge q 13 with gq | gq
                    · obtain rfl : q = 12 := by omega
                      exact fhgt_16_12
                    · obtain rfl : q = 13 := by omega
                      exact fhgt_16_13
                  · rcases Nat.lt_or_ge q 15 with gq | gq
                    · obtain rfl : q = 14 := by omega
                      exact fhgt_16_14
                    · obtain rfl : q = 15 := by omega
                      exact fhgt_16_15
            · rcases Nat.lt_or_ge q 24 with gq | gq
              · rcases Nat.lt_or_ge q 20 with gq | gq
                · rcases Nat.lt_or_ge q 18 with gq | gq
                  · rcases Nat.lt_or_ge q 17 with gq | gq
                    · obtain rfl : q = 16 := by omega
                      exact fhgt_16_16
                    · obtain rfl : q = 17 := by omega
                      exact fhgt_16_17
                  · rcases Nat.lt_or_ge q 19 with gq | gq
                    · obtain rfl : q = 18 := by omega
                      exact fhgt_16_18
                    · obtain rfl : q = 19 := by omega
                      exact fhgt_16_19
                · rcases Nat.lt_or_ge q 22 with gq | gq
                  · rcases Nat.lt_or_ge q 21 with gq | gq
                    · obtain rfl : q = 20 := by omega
                      exact fhgt_16_20
                    · obtain rfl : q = 21 := by omega
                      exact fhgt_16_21
                  · rcases Nat.lt_or_ge q 23 with gq | gq
                    · obtain rfl : q = 22 := by omega
                      exact fhgt_16_22
                    · obtain rfl : q = 23 := by omega
                      exact fhgt_16_23
              · rcases Nat.lt_or_ge q 28 with gq | gq
                · rcases Nat.lt_or_ge q 26 with gq | gq
                  · rcases Nat.lt_or_ge q 25 with gq | gq
                    · obtain rfl : q = 24 := by omega
                      exact fhgt_16_24
                    · obtain rfl : q = 25 := by omega
                      exact fhgt_16_25
                  · rcases Nat.lt_or_ge q 27 with gq | gq
                    · obtain rfl : q = 26 := by omega
                      exact fhgt_16_26
                    · obtain rfl : q = 27 := by omega
                      exact fhgt_16_27
                · rcases Nat.lt_or_ge q 30 with gq | gq
                  · rcases Nat.lt_or_ge q 29 with gq | gq
                    · obtain rfl : q = 28 := by omega
                      exact fhgt_16_28
                    · obtain rfl : q = 29 := by omega
                      exact fhgt_16_29
                  · rcases Nat.lt_or_ge q 31 with gq | gq
                    · obtain rfl : q = 30 := by omega
                      exact fhgt_16_30
                    · obtain rfl : q = 31 := by omega
                      exact fhgt_16_31
          · obtain rfl : p = 17 := by omega
            rcases Nat.lt_or_ge q 16 with gq | gq
            · rcases Nat.lt_or_ge q 8 with gq | gq
              · rcases Nat.lt_or_ge q 4 with gq | gq
                · rcases Nat.lt_or_ge q 2 with gq | gq
                  · rcases Nat.lt_or_ge q 1 with gq | gq
                    · obtain rfl : q = 0 := by omega
                      exact fhgt_17_0
                    · obtain rfl : q = 1 := by omega
                      exact fhgt_17_1
                  · rcases Nat.lt_or_ge q 3 with gq | gq
                    · obtain rfl : q = 2 := by omega
                      exact fhgt_17_2
                    · obtain rfl : q = 3 := by omega
                      exact fhgt_17_3
                · rcases Nat.lt_or_ge q 6 with gq | gq
                  · rcases Nat.lt_or_ge q 5 with gq | gq
                    · obtain rfl : q = 4 := by omega
                      exact fhgt_17_4
                    · obtain rfl : q = 5 := by omega
                      exact fhgt_17_5
                  · rcases Nat.lt_or_ge q 7 with gq | gq
                    · obtain rfl : q = 6 := by omega
                      exact fhgt_17_6
                    · obtain rfl : q = 7 := by omega
                      exact fhgt_17_7
              · rcases Nat.lt_or_ge q 12 with gq | gq
                · rcases Nat.lt_or_ge q 10 with gq | gq
                  · rcases Nat.lt_or_ge q 9 with gq | gq
                    · obtain rfl : q = 8 := by omega
                      exact fhgt_17_8
                    · obtain rfl : q = 9 := by omega
                      exact fhgt_17_9
                  · rcases Nat.lt_or_ge q 11 with gq | gq
                    · obtain rfl : q = 10 := by omega
                      exact fhgt_17_10
                    · obtain rfl : q = 11 := by omega
                      exact fhgt_17_11
                · rcases Nat.lt_or_ge q 14 with gq | gq
                  · rcases Nat.lt_or_ge q 13 with gq | gq
                    · obtain rfl : q = 12 := by omega
                      exact fhgt_17_12
                    · obtain rfl : q = 13 := by omega
                      exact fhgt_17_13
                  · rcases Nat.lt_or_ge q 15 with gq | gq
                    · obtain rfl : q = 14 := by omega
                      exact fhgt_17_14
                    · obtain rfl : q = 15 := by omega
                      exact fhgt_17_15
            · rcases Nat.lt_or_ge q 24 with gq | gq
              · rcases Nat.lt_or_ge q 20 with gq | gq
                · rcases Nat.lt_or_ge q 18 with gq | gq
                  · rcases Nat.lt_or_ge q 17 with gq | gq
                    · obtain rfl : q = 16 := by omega
                      exact fhgt_17_16
                    · obtain rfl : q = 17 := by omega
                      exact fhgt_17_17
                  · rcases Nat.lt_or_ge q 19 with gq | gq
                    · obtain rfl : q = 18 := by omega
                      exact fhgt_17_18
                    · obtain rfl : q = 19 := by omega
                      exact fhgt_17_19
                · rcases Nat.lt_or_ge q 22 with gq | gq
                  · rcases Nat.lt_or_ge q 21 with gq | gq
                    · obtain rfl : q = 20 := by omega
                      exact fhgt_17_20
                    · obtain rfl : q = 21 := by omega
                      exact fhgt_17_21
                  · rcases Nat.lt_or_ge q 23 with gq | gq
                    · obtain rfl : q = 22 := by omega
                      exact fhgt_17_22
                    · obtain rfl : q = 23 := by omega
                      exact fhgt_17_23
              · rcases Nat.lt_or_ge q 28 with gq | gq
                · rcases Nat.lt_or_ge q 26 with gq | gq
                  · rcases Nat.lt_or_ge q 25 with gq | gq
                    · obtain rfl : q = 24 := by omega
                      exact fhgt_17_24
                    · obtain rfl : q = 25 := by omega
                      exact fhgt_17_25
                  · rcases Nat.lt_or_ge q 27 with gq | gq
                    · obtain rfl : q = 26 := by omega
                      exact fhgt_17_26
                    · obtain rfl : q = 27 := by omega
                      exact fhgt_17_27
                · rcases Nat.lt_or_ge q 30 with gq | gq
                  · rcases Nat.lt_or_ge q 29 with gq | gq
                    · obtain rfl : q = 28 := by omega
                      exact fhgt_17_28
                    · obtain rfl : q = 29 := by omega
                      exact fhgt_17_29
                  · rcases Nat.lt_or_ge q 31 with gq | gq
                    · obtain rfl : q = 30 := by omega
                      exact fhgt_17_30
                    · obtain rfl : q = 31 := by omega
                      exact fhgt_17_31
        · rcases Nat.lt_or_ge p 19 with gp | gp
          · obtain rfl : p = 18 := by omega
            rcases Nat.lt_or_ge q 16 with gq | gq
            · rcases Nat.lt_or_ge q 8 with gq | gq
              · rcases Nat.lt_or_ge q 4 with gq | gq
                · rcases Nat.lt_or_ge q 2 with gq | gq
                  · rcases Nat.lt_or_ge q 1 with gq | gq
                    · obtain rfl : q = 0 := by omega
                      exact fhgt_18_0
                    · obtain rfl : q = 1 := by omega
                      exact fhgt_18_1
                  · rcases Nat.lt_or_ge q 3 with gq | gq
                    · obtain rfl : q = 2 := by omega
                      exact fhgt_18_2
                    · obtain rfl : q = 3 := by omega
                      exact fhgt_18_3
                · rcases Nat.lt_or_ge q 6 with gq | gq
                  · rcases Nat.lt_or_ge q 5 with gq | gq
                    · obtain rfl : q = 4 := by omega
                      exact fhgt_18_4
                    · obtain rfl : q = 5 := by omega
                      exact fhgt_18_5
                  · rcases Nat.lt_or_ge q 7 with gq | gq
                    · obtain rfl : q = 6 := by omega
                      exact fhgt_18_6
                    · obtain rfl : q = 7 := by omega
                      exact fhgt_18_7
              · rcases Nat.lt_or_ge q 12 with gq | gq
                · rcases Nat.lt_or_ge q 10 with gq | gq
                  · rcases Nat.lt_or_ge q 9 with gq | gq
                    · obtain rfl : q = 8 := by omega
                      exact fhgt_18_8
                    · obtain rfl : q = 9 := by omega
                      exact fhgt_18_9
                  · rcases Nat.lt_or_ge q 11 with gq | gq
                    · obtain rfl : q = 10 := by omega
                      exact fhgt_18_10
                    · obtain rfl : q = 11 := by omega
                      exact fhgt_18_11
                · rcases Nat.lt_or_ge q 14 with gq | gq
                  · rcases Nat.lt_or_ge q 13 with gq | gq
                    · obtain rfl : q = 12 := by omega
                      exact fhgt_18_12
                    · obtain rfl : q = 13 := by omega
                      exact fhgt_18_13
                  · rcases Nat.lt_or_ge q 15 with gq | gq
                    · obtain rfl : q = 14 := by omega
                      exact fhgt_18_14
                    · obtain rfl : q = 15 := by omega
                      exact fhgt_18_15
            · rcases Nat.lt_or_ge q 24 with gq | gq
              · rcases Nat.lt_or_ge q 20 with gq | gq
                · rcases Nat.lt_or_ge q 18 with gq | gq
                  · rcases Nat.lt_or_ge q 17 with gq | gq
                    · obtain rfl : q = 16 := by omega
                      exact fhgt_18_16
                    · obtain rfl : q = 17 := by omega
                      exact fhgt_18_17
                  · rcases Nat.lt_or_ge q 19 with gq | gq
                    · obtain rfl : q = 18 := by omega
                      exact fhgt_18_18
                    · obtain rfl : q = 19 := by omega
                      exact fhgt_18_19
                · rcases Nat.lt_or_ge q 22 with gq | gq
                  · rcases Nat.lt_or_ge q 21 with gq | gq
                    · obtain rfl : q = 20 := by omega
                      exact fhgt_18_20
                    · obtain rfl : q = 21 := by omega
                      exact fhgt_18_21
                  · rcases Nat.lt_or_ge q 23 with gq | gq
                    · obtain rfl : q = 22 := by omega
                      exact fhgt_18_22
                    · obtain rfl : q = 23 := by omega
                      exact fhgt_18_23
              · rcases Nat.lt_or_ge q 28 with gq | gq
                · rcases Nat.lt_or_ge q 26 with gq | gq
                  · rcases Nat.lt_or_ge q 25 with gq | gq
                    · obtain rfl : q = 24 := by omega
                      exact fhgt_18_24
                    · obtain rfl : q = 25 := by omega
                      exact fhgt_18_25
                  · rcases Nat.lt_or_ge q 27 with gq | gq
                    · obtain rfl : q = 26 := by omega
                      exact fhgt_18_26
                    · obtain rfl : q = 27 := by omega
                      exact fhgt_18_27
                · rcases Nat.lt_or_ge q 30 with gq | gq
                  · rcases Nat.lt_or_ge q 29 with gq | gq
                    · obtain rfl : q = 28 := by omega
                      exact fhgt_18_28
                    · obtain rfl : q = 29 := by omega
                      exact fhgt_18_29
                  · rcases Nat.lt_or_ge q 31 with gq | gq
                    · obtain rfl : q = 30 := by omega
                      exact fhgt_18_30
                    · obtain rfl : q = 31 := by omega
                      exact fhgt_18_31
          · obtain rfl : p = 19 := by omega
            rcases Nat.lt_or_ge q 16 with gq | gq
            · rcases Nat.lt_or_ge q 8 with gq | gq
              · rcases Nat.lt_or_ge q 4 with gq | gq
                · rcases Nat.lt_or_ge q 2 with gq | gq
                  · rcases Nat.lt_or_ge q 1 with gq | gq
                    · obtain rfl : q = 0 := by omega
                      exact fhgt_19_0
                    · obtain rfl : q = 1 := by omega
                      exact fhgt_19_1
                  · rcases Nat.lt_or_ge q 3 with gq | gq
                    · obtain rfl : q = 2 := by omega
                      exact fhgt_19_2
                    · obtain rfl : q = 3 := by omega
                      exact fhgt_19_3
                · rcases Nat.lt_or_ge q 6 with gq | gq
                  · rcases Nat.lt_or_ge q 5 with gq | gq
                    · obtain rfl : q = 4 := by omega
                      exact fhgt_19_4
                    · obtain rfl : q = 5 := by omega
                      exact fhgt_19_5
                  · rcases Nat.lt_or_ge q 7 with gq | gq
                    · obtain rfl : q = 6 := by omega
                      exact fhgt_19_6
                    · obtain rfl : q = 7 := by omega
                      exact fhgt_19_7
              · rcases Nat.lt_or_ge q 12 with gq | gq
                · rcases Nat.lt_or_ge q 10 with gq | gq
                  · rcases Nat.lt_or_ge q 9 with gq | gq
                    · obtain rfl : q = 8 := by omega
                      exact fhgt_19_8
                    · obtain rfl : q = 9 := by omega
                      exact fhgt_19_9
                  · rcases Nat.lt_or_ge q 11 with gq | gq
                    · obtain rfl : q = 10 := by omega
                      exact fhgt_19_10
                    · obtain rfl : q = 11 := by omega
                      exact fhgt_19_11
                · rcases Nat.lt_or_ge q 14 with gq | gq
                  · rcases Nat.lt_or_ge q 13 with gq | gq
                    · obtain rfl : q = 12 := by omega
                      exact fhgt_19_12
                    · obtain rfl : q = 13 := by omega
                      exact fhgt_19_13
                  · rcases Nat.lt_or_ge q 15 with gq | gq
                    · obtain rfl : q = 14 := by omega
                      exact fhgt_19_14
                    · obtain rfl : q = 15 := by omega
                      exact fhgt_19_15
            · rcases Nat.lt_or_ge q 24 with gq | gq
              · rcases Nat.lt_or_ge q 20 with gq | gq
                · rcases Nat.lt_or_ge q 18 with gq | gq
                  · rcases Nat.lt_or_ge q 17 with gq | gq
                    · obtain rfl : q = 16 := by omega
                      exact fhgt_19_16
                    · obtain rfl : q = 17 := by omega
                      exact fhgt_19_17
                  · rcases Nat.lt_or_ge q 19 with gq | gq
                    · obtain rfl : q = 18 := by omega
                      exact fhgt_19_18
                    · obtain rfl : q = 19 := by omega
                      exact fhgt_19_19
                · rcases Nat.lt_or_ge q 22 with gq | gq
                  · rcases Nat.lt_or_ge q 21 with gq | gq
                    · obtain rfl : q = 20 := by omega
                      exact fhgt_19_20
                    · obtain rfl : q = 21 := by omega
                      exact fhgt_19_21
                  · rcases Nat.lt_or_ge q 23 with gq | gq
                    · obtain rfl : q = 22 := by omega
                      exact fhgt_19_22
                    · obtain rfl : q = 23 := by omega
                      exact fhgt_19_23
              · rcases Nat.lt_or_ge q 28 with gq | gq
                · rcases Nat.lt_or_ge q 26 with gq | gq
                  · rcases Nat.lt_or_ge q 25 with gq | gq
                    · obtain rfl : q = 24 := by omega
                      exact fhgt_19_24
                    · obtain rfl : q = 25 := by omega
                      exact fhgt_19_25
                  · rcases Nat.lt_or_ge q 27 with gq | gq
                    · obtain rfl : q = 26 := by omega
                      exact fhgt_19_26
                    · obtain rfl : q = 27 := by omega
                      exact fhgt_19_27
                · rcases Nat.lt_or_ge q 30 with gq | gq
                  · rcases Nat.lt_or_ge q 29 with gq | gq
                    · obtain rfl : q = 28 := by omega
                      exact fhgt_19_28
                    · obtain rfl : q = 29 := by omega
                      exact fhgt_19_29
                  · rcases Nat.lt_or_ge q 31 with gq | gq
                    · obtain rfl : q = 30 := by omega
                      exact fhgt_19_30
                    · obtain rfl : q = 31 := by omega
                      exact fhgt_19_31
      · rcases Nat.lt_or_ge p 22 with gp | gp
        · rcases Nat.lt_or_ge p 21 with gp | gp
          · obtain rfl : p = 20 := by omega
            rcases Nat.lt_or_ge q 16 with gq | gq
            · rcases Nat.lt_or_ge q 8 with gq | gq
              · rcases Nat.lt_or_ge q 4 with gq | gq
                · rcases Nat.lt_or_ge q 2 with gq | gq
                  · rcases Nat.lt_or_ge q 1 with gq | gq
                    · obtain rfl : q = 0 := by omega
                      exact fhgt_20_0
                    · obtain rfl : q = 1 := by omega
                      exact fhgt_20_1
                  · rcases Nat.lt_or_ge q 3 with gq | gq
                    · obtain rfl : q = 2 := by omega
                      exact fhgt_20_2
                    · obtain rfl : q = 3 := by omega
                      exact fhgt_20_3
                · rcases Nat.lt_or_ge q 6 with gq | gq
                  · rcases Nat.lt_or_ge q 5 with gq | gq
                    · obtain rfl : q = 4 := by omega
                      exact fhgt_20_4
                    · obtain rfl : q = 5 := by omega
                      exact fhgt_20_5
                  · rcases Nat.lt_or_ge q 7 with gq | gq
                    · obtain rfl : q = 6 := by omega
                      exact fhgt_20_6
                    · obtain rfl : q = 7 := by omega
                      exact fhgt_20_7
              · rcases Nat.lt_or_ge q 12 with gq | gq
                · rcases Nat.lt_or_ge q 10 with gq | gq
                  · rcases Nat.lt_or_ge q 9 with gq | gq
                    · obtain rfl : q = 8 := by omega
                      exact fhgt_20_8
                    · obtain rfl : q = 9 := by omega
                      exact fhgt_20_9
                  · rcases Nat.lt_or_ge q 11 with gq | gq
                    · obtain rfl : q = 10 := by omega
                      exact fhgt_20_10
                    · obtain rfl : q = 11 := by omega
                      exact fhgt_20_11
                · rcases Nat.lt_or_ge q 14 with gq | gq
                  · rcases Nat.lt_or_ge q 13 with gq | gq
                    · obtain rfl : q = 12 := by omega
                      exact fhgt_20_12
                    · obtain rfl : q = 13 := by omega
                      exact fhgt_20_13
                  · rcases Nat.lt_or_ge q 15 with gq | gq
                    · obtain rfl : q = 14 := by omega
                      exact fhgt_20_14
                    · obtain rfl : q = 15 := by omega
                      exact fhgt_20_15
            · rcases Nat.lt_or_ge q 24 with gq | gq
              · rcases Nat.lt_or_ge q 20 with gq | gq
                · rcases Nat.lt_or_ge q 18 with gq | gq
                  · rcases Nat.lt_or_ge q 17 with gq | gq
                    · obtain rfl : q = 16 := by omega
                      exact fhgt_20_16
                    · obtain rfl : q = 17 := by omega
                      exact fhgt_20_17
                  · rcases Nat.lt_or_ge q 19 with gq | gq
                    · obtain rfl : q = 18 := by omega
                      exact fhgt_20_18
                    · obtain rfl : q = 19 := by omega
                      exact fhgt_20_19
                · rcases Nat.lt_or_ge q 22 with gq | gq
                  · rcases Nat.lt_or_ge q 21 with gq | gq
                    · obtain rfl : q = 20 := by omega
                      exact fhgt_20_20
                    · obtain rfl : q = 21 := by omega
                      exact fhgt_20_21
                  · rcases Nat.lt_or_ge q 23 with gq | gq
                    · obtain rfl : q = 22 := by omega
                      exact fhgt_20_22
                    · obtain rfl : q = 23 := by omega
                      exact fhgt_20_23
              · rcases Nat.lt_or_ge q 28 with gq | gq
                · rcases Nat.lt_or_ge q 26 with gq | gq
                  · rcases Nat.lt_or_ge q 25 with gq | gq
                    · obtain rfl : q = 24 := by omega
                      exact fhgt_20_24
                    · obtain rfl : q = 25 := by omega
                      exact fhgt_20_25
                  · rcases Nat.lt_or_ge q 27 with gq | gq
                    · obtain rfl : q = 26 := by omega
                      exact fhgt_20_26
                    · obtain rfl : q = 27 := by omega
                      exact fhgt_20_27
                · rcases Nat.lt_or_ge q 30 with gq | gq
                  · rcases Nat.lt_or_ge q 29 with gq | gq
                    · obtain rfl : q = 28 := by omega
                      exact fhgt_20_28
                    · obtain rfl : q = 29 := by omega
                      exact fhgt_20_29
                  · rcases Nat.lt_or_ge q 31 with gq | gq
                    · obtain rfl : q = 30 := by omega
                      exact fhgt_20_30
                    · obtain rfl : q = 31 := by omega
                      exact fhgt_20_31
          · obtain rfl : p = 21 := by omega
            rcases Nat.lt_or_ge q 16 with gq | gq
            · rcases Nat.lt_or_ge q 8 with gq | gq
              · rcases Nat.lt_or_ge q 4 with gq | gq
                · rcases Nat.lt_or_ge q 2 with gq | gq
                  · rcases Nat.lt_or_ge q 1 with gq | gq
                    · obtain rfl : q = 0 := by omega
                      exact fhgt_21_0
                    · obtain rfl : q = 1 := by omega
                      exact fhgt_21_1
                  · rcases Nat.lt_or_ge q 3 with gq | gq
                    · obtain rfl : q = 2 := by omega
                      exact fhgt_21_2
                    · obtain rfl : q = 3 := by omega
                      exact fhgt_21_3
                · rcases Nat.lt_or_ge q 6 with gq | gq
                  · rcases Nat.lt_or_ge q 5 with gq | gq
                    · obtain rfl : q = 4 := by omega
                      exact fhgt_21_4
                    · obtain rfl : q = 5 := by omega
                      exact fhgt_21_5
                  · rcases Nat.lt_or_ge q 7 with gq | gq
                    · obtain rfl : q = 6 := by omega
                      exact fhgt_21_6
                    · obtain rfl : q = 7 := by omega
                      exact fhgt_21_7
              · rcases Nat.lt_or_ge q 12 with gq | gq
                · rcases Nat.lt_or_ge q 10 with gq | gq
                  · rcases Nat.lt_or_ge q 9 with gq | gq
                    · obtain rfl : q = 8 := by omega
                      exact fhgt_21_8
                    · obtain rfl : q = 9 := by omega
                      exact fhgt_21_9
                  · rcases Nat.lt_or_ge q 11 with gq | gq
                    · obtain rfl : q = 10 := by omega
                      exact fhgt_21_10
                    · obtain rfl : q = 11 := by omega
                      exact fhgt_21_11
                · rcases Nat.lt_or_ge q 14 with gq | gq
                  · rcases Nat.lt_or_ge q 13 with gq | gq
                    · obtain rfl : q = 12 := by omega
                      exact fhgt_21_12
                    · obtain rfl : q = 13 := by omega
                      exact fhgt_21_13
                  · rcases Nat.lt_or_ge q 15 with gq | gq
                    · obtain rfl : q = 14 := by omega
                      exact fhgt_21_14
                    · obtain rfl : q = 15 := by omega
                      exact fhgt_21_15
            · rcases Nat.lt_or_ge q 24 with gq | gq
              · rcases Nat.lt_or_ge q 20 with gq | gq
                · rcases Nat.lt_or_ge q 18 with gq | gq
                  · rcases Nat.lt_or_ge q 17 with gq | gq
                    · obtain rfl : q = 16 := by omega
                      exact fhgt_21_16
                    · obtain rfl : q = 17 := by omega
                      exact fhgt_21_17
                  · rcases Nat.lt_or_ge q 19 with gq | gq
                    · obtain rfl : q = 18 := by omega
                      exact fhgt_21_18
                    · obtain rfl : q = 19 := by omega
                      exact fhgt_21_19
                · rcases Nat.lt_or_ge q 22 with gq | gq
                  · rcases Nat.lt_or_ge q 21 with gq | gq
                    · obtain rfl : q = 20 := by omega
                      exact fhgt_21_20
                    · obtain rfl : q = 21 := by omega
                      exact fhgt_21_21
                  · rcases Nat.lt_or_ge q 23 with gq | gq
                    · obtain rfl : q = 22 := by omega
                      exact fhgt_21_22
                    · obtain rfl : q = 23 := by omega
                      exact fhgt_21_23
              · rcases Nat.lt_or_ge q 28 with gq | gq
                · rcases Nat.lt_or_ge q 26 with gq | gq
                  · rcases Nat.lt_or_ge q 25 with gq | gq
                    · obtain rfl : q = 24 := by omega
                      exact fhgt_21_24
                    · obtain rfl : q = 25 := by omega
                      exact fhgt_21_25
                  · rcases Nat.lt_or_ge q 27 with gq | gq
                    · obtain rfl : q = 26 := by omega
                      exact fhgt_21_26
                    · obtain rfl : q = 27 := by omega
                      exact fhgt_21_27
                · rcases Nat.lt_or_ge q 30 with gq | gq
                  · rcases Nat.lt_or_ge q 29 with gq | gq
                    · obtain rfl : q = 28 := by omega
                      exact fhgt_21_28
                    · obtain rfl : q = 29 := by omega
                      exact fhgt_21_29
                  · rcases Nat.lt_or_ge q 31 with gq | gq
                    · obtain rfl : q = 30 := by omega
                      exact fhgt_21_30
                    · obtain rfl : q = 31 := by omega
                      exact fhgt_21_31
        · rcases Nat.lt_or_ge p 23 with gp | gp
          · obtain rfl : p = 22 := by omega
            rcases Nat.lt_or_ge q 16 with gq | gq
            · rcases Nat.lt_or_ge q 8 with gq | gq
              · rcases Nat.lt_or_ge q 4 with gq | gq
                · rcases Nat.lt_or_ge q 2 with gq | gq
                  · rcases Nat.lt_or_ge q 1 with gq | gq
                    · obtain rfl : q = 0 := by omega
                      exact fhgt_22_0
                    · obtain rfl : q = 1 := by omega
                      exact fhgt_22_1
                  · rcases Nat.lt_or_ge q 3 with gq | gq
                    · obtain rfl : q = 2 := by omega
                      exact fhgt_22_2
                    · obtain rfl : q = 3 := by omega
                      exact fhgt_22_3
                · rcases Nat.lt_or_ge q 6 with gq | gq
                  · rcases Nat.lt_or_ge q 5 with gq | gq
                    · obtain rfl : q = 4 := by omega
                      exact fhgt_22_4
                    · obtain rfl : q = 5 := by omega
                      exact fhgt_22_5
                  · rcases Nat.lt_or_ge q 7 with gq | gq
                    · obtain rfl : q = 6 := by omega
                      exact fhgt_22_6
                    · obtain rfl : q = 7 := by omega
                      exact fhgt_22_7
              · rcases Nat.lt_or_ge q 12 with gq | gq
                · rcases Nat.lt_or_ge q 10 with gq | gq
                  · rcases Nat.lt_or_ge q 9 with gq | gq
                    · obtain rfl : q = 8 := by omega
                      exact fhgt_22_8
                    · obtain rfl : q = 9 := by omega
                      exact fhgt_22_9
                  · rcases Nat.lt_or_ge q 11 with gq | gq
                    · obtain rfl : q = 10 := by omega
                      exact fhgt_22_10
                    · obtain rfl : q = 11 := by omega
                      exact fhgt_22_11
                · rcases Nat.lt_or_ge q 14 with gq | gq
                  · rcases Nat.lt_or_ge q 13 with gq | gq
                    · obtain rfl : q = 12 := by omega
                      exact fhgt_22_12
                    · obtain rfl : q = 13 := by omega
                      exact fhgt_22_13
                  · rcases Nat.lt_or_ge q 15 with gq | gq
                    · obtain rfl : q = 14 := by omega
                      exact fhgt_22_14
                    · obtain rfl : q = 15 := by omega
                      exact fhgt_22_15
            · rcases Nat.lt_or_ge q 24 with gq | gq
              · rcases Nat.lt_or_ge q 20 with gq | gq
                · rcases Nat.lt_or_ge q 18 with gq | gq
                  · rcases Nat.lt_or_ge q 17 with gq | gq
                    · obtain rfl : q = 16 := by omega
                      exact fhgt_22_16
                    · obtain rfl : q = 17 := by omega
                      exact fhgt_22_17
                  · rcases Nat.lt_or_ge q 19 with gq | gq
                    · obtain rfl : q = 18 := by omega
                      exact fhgt_22_18
                    · obtain rfl : q = 19 := by omega
                      exact fhgt_22_19
                · rcases Nat.lt_or_ge q 22 with gq | gq
                  · rcases Nat.lt_or_ge q 21 with gq | gq
                    · obtain rfl : q = 20 := by omega
                      exact fhgt_22_20
                    · obtain rfl : q = 21 := by omega
                      exact fhgt_22_21
                  · rcases Nat.lt_or_ge q 23 with gq | gq
                    · obtain rfl : q = 22 := by omega
                      exact fhgt_22_22
                    · obtain rfl : q = 23 := by omega
                      exact fhgt_22_23
              · rcases Nat.lt_or_ge q 28 with gq | gq
                · rcases Nat.lt_or_ge q 26 with gq | gq
                  · rcases Nat.lt_or_ge q 25 with gq | gq
                    · obtain rfl : q = 24 := by omega
                      exact fhgt_22_24
                    · obtain rfl : q = 25 := by omega
                      exact fhgt_22_25
                  · rcases Nat.lt_or_ge q 27 with gq | gq
                    · obtain rfl : q = 26 := by omega
                      exact fhgt_22_26
                    · obtain rfl : q = 27 := by omega
                      exact fhgt_22_27
                · rcases Nat.lt_or_ge q 30 with gq | gq
                  · rcases Nat.lt_or_ge q 29 with gq | gq
                    · obtain rfl : q = 28 := by omega
                      exact fhgt_22_28
                    · obtain rfl : q = 29 := by omega
                      exact fhgt_22_29
                  · rcases Nat.lt_or_ge q 31 with gq | gq
                    · obtain rfl : q = 30 := by omega
                      exact fhgt_22_30
                    · obtain rfl : q = 31 := by omega
                      exact fhgt_22_31
          · obtain rfl : p = 23 := by omega
            rcases Nat.lt_or_ge q 16 with gq | gq
            · rcases Nat.lt_or_ge q 8 with gq | gq
              · rcases Nat.lt_or_ge q 4 with gq | gq
                · rcases Nat.lt_or_ge q 2 with gq | gq
                  · rcases Nat.lt_or_ge q 1 with gq | gq
                    · obtain rfl : q = 0 := by omega
                      exact fhgt_23_0
                    · obtain rfl : q = 1 := by omega
                      exact fhgt_23_1
                  · rcases Nat.lt_or_ge q 3 with gq | gq
                    · obtain rfl : q = 2 := by omega
                      exact fhgt_23_2
                    · obtain rfl : q = 3 := by omega
                      exact fhgt_23_3
                · rcases Nat.lt_or_ge q 6 with gq | gq
                  · rcases Nat.lt_or_ge q 5 with gq | gq
                    · obtain rfl : q = 4 := by omega
                      exact fhgt_23_4
                    · obtain rfl : q = 5 := by omega
                      exact fhgt_23_5
                  · rcases Nat.lt_or_ge q 7 with gq | gq
                    · obtain rfl : q = 6 := by omega
                      exact fhgt_23_6
                    · obtain rfl : q = 7 := by omega
                      exact fhgt_23_7
              · rcases Nat.lt_or_ge q 12 with gq | gq
                · rcases Nat.lt_or_ge q 10 with gq | gq
                  · rcases Nat.lt_or_ge q 9 with gq | gq
                    · obtain rfl : q = 8 := by omega
                      exact fhgt_23_8
                    · obtain rfl : q = 9 := by omega
                      exact fhgt_23_9
                  · rcases Nat.lt_or_ge q 11 with gq | gq
                    · obtain rfl : q = 10 := by omega
                      exact fhgt_23_10
                    · obtain rfl : q = 11 := by omega
                      exact fhgt_23_11
                · rcases Nat.lt_or_ge q 14 with gq | gq
                  · rcases Nat.lt_or_ge q 13 with gq | gq
                    · obtain rfl : q = 12 := by omega
                      exact fhgt_23_12
                    · obtain rfl : q = 13 := by omega
                      exact fhgt_23_13
                  · rcases Nat.lt_or_ge q 15 with gq | gq
                    · obtain rfl : q = 14 := by omega
                      exact fhgt_23_14
                    · obtain rfl : q = 15 := by omega
                      exact fhgt_23_15
            · rcases Nat.lt_or_ge q 24 with gq | gq
              · rcases Nat.lt_or_ge q 20 with gq | gq
                · rcases Nat.lt_or_ge q 18 with gq | gq
                  · rcases Nat.lt_or_ge q 17 with gq | gq
                    · obtain rfl : q = 16 := by omega
                      exact fhgt_23_16
                    · obtain rfl : q = 17 := by omega
                      exact fhgt_23_17
                  · rcases Nat.lt_or_ge q 19 with gq | gq
                    · obtain rfl : q = 18 := by omega
                      exact fhgt_23_18
                    · obtain rfl : q = 19 := by omega
                      exact fhgt_23_19
                · rcases Nat.lt_or_ge q 22 with gq | gq
                  · rcases Nat.lt_or_ge q 21 with gq | gq
                    · obtain rfl : q = 20 := by omega
                      exact fhgt_23_20
                    · obtain rfl : q = 21 := by omega
                      exact fhgt_23_21
                  · rcases Nat.lt_or_ge q 23 with gq | gq
                    · obtain rfl : q = 22 := by omega
                      exact fhgt_23_22
                    · obtain rfl : q = 23 := by omega
                      exact fhgt_23_23
              · rcases Nat.lt_or_ge q 28 with gq | gq
                · rcases Nat.lt_or_ge q 26 with gq | gq
                  · rcases Nat.lt_or_ge q 25 with gq | gq
                    · obtain rfl : q = 24 := by omega
                      exact fhgt_23_24
                    · obtain rfl : q = 25 := by omega
                      exact fhgt_23_25
                  · rcases Nat.lt_or_ge q 27 with gq | gq
                    · obtain rfl : q = 26 := by omega
                      exact fhgt_23_26
                    · obtain rfl : q = 27 := by omega
                      exact fhgt_23_27
                · rcases Nat.lt_or_ge q 30 with gq | gq
                  · rcases Nat.lt_or_ge q 29 with gq | gq
                    · obtain rfl : q = 28 := by omega
                      exact fhgt_23_28
                    · obtain rfl : q = 29 := by omega
                      exact fhgt_23_29
                  · rcases Nat.lt_or_ge q 31 with gq | gq
                    · obtain rfl : q = 30 := by omega
                      exact fhgt_23_30
                    · obtain rfl : q = 31 := by omega
                      exact fhgt_23_31
    · rcases Nat.lt_or_ge p 28 with gp | gp
      · rcases Nat.lt_or_ge p 26 with gp | gp
        · rcases Nat.lt_or_ge p 25 with gp | gp
          · obtain rfl : p = 24 := by omega
            rcases Nat.lt_or_ge q 16 with gq | gq
            · rcases Nat.lt_or_ge q 8 with gq | gq
              · rcases Nat.lt_or_ge q 4 with gq | gq
                · rcases Nat.lt_or_ge q 2 with gq | gq
                  · rcases Nat.lt_or_ge q 1 with gq | gq
                    · obtain rfl : q = 0 := by omega
                      exact fhgt_24_0
                    · obtain rfl : q = 1 := by omega
                      exact fhgt_24_1
                  · rcases Nat.lt_or_ge q 3 with gq | gq
                    · obtain rfl : q = 2 := by omega
                      exact fhgt_24_2
                    · obtain rfl : q = 3 := by omega
                      exact fhgt_24_3
                · rcases Nat.lt_or_ge q 6 with gq | gq
                  · rcases Nat.lt_or_ge q 5 with gq | gq
                    · obtain rfl : q = 4 := by omega
                      exact fhgt_24_4
                    · obtain rfl : q = 5 := by omega
                      exact fhgt_24_5
                  · rcases Nat.lt_or_ge q 7 with gq | gq
                    · obtain rfl : q = 6 := by omega
                      exact fhgt_24_6
                    · obtain rfl : q = 7 := by omega
                      exact fhgt_24_7
              · rcases Nat.lt_or_ge q 12 with gq | gq
                · rcases Nat.lt_or_ge q 10 with gq | gq
                  · rcases Nat.lt_or_ge q 9 with gq | gq
                    · obtain rfl : q = 8 := by omega
                      exact fhgt_24_8
                    · obtain rfl : q = 9 := by omega
                      exact fhgt_24_9
                  · rcases Nat.lt_or_ge q 11 with gq | gq
                    · obtain rfl : q = 10 := by omega
                      exact fhgt_24_10
                    · obtain rfl : q = 11 := by omega
                      exact fhgt_24_11
                · rcases Nat.lt_or_ge q 14 with gq | gq
                  · rcases Nat.lt_or_ge q 13 with gq | gq
                    · obtain rfl : q = 12 := by omega
                      exact fhgt_24_12
                    · obtain rfl : q = 13 := by omega
                      exact fhgt_24_13
                  · rcases Nat.lt_or_ge q 15 with gq | gq
                    · obtain rfl : q = 14 := by omega
                      exact fhgt_24_14
                    · obtain rfl : q = 15 := by omega
                      exact fhgt_24_15
            · rcases Nat.lt_or_ge q 24 with gq | gq
              · rcases Nat.lt_or_ge q 20 with gq | gq
                · rcases Nat.lt_or_ge q 18 with gq | gq
                  · rcases Nat.lt_or_ge q 17 with gq | gq
                    · obtain rfl : q = 16 := by omega
                      exact fhgt_24_16
                    · obtain rfl : q = 17 := by omega
                      exact fhgt_24_17
                  · rcases Nat.lt_or_ge q 19 with gq | gq
                    · obtain rfl : q = 18 := by omega
                      exact fhgt_24_18
                    · obtain rfl : q = 19 := by omega
                      exact fhgt_24_19
                · rcases Nat.lt_or_ge q 22 with gq | gq
                  · rcases Nat.lt_or_ge q 21 with gq | gq
                    · obtain rfl : q = 20 := by omega
                      exact fhgt_24_20
                    · obtain rfl : q = 21 := by omega
                      exact fhgt_24_21
                  · rcases Nat.lt_or_ge q 23 with gq | gq
                    · obtain rfl : q = 22 := by omega
                      exact fhgt_24_22
                    · obtain rfl : q = 23 := by omega
                      exact fhgt_24_23
              · rcases Nat.lt_or_ge q 28 with gq | gq
                · rcases Nat.lt_or_ge q 26 with gq | gq
                  · rcases Nat.lt_or_ge q 25 with gq | gq
                    · obtain rfl : q = 24 := by omega
                      exact fhgt_24_24
                    · obtain rfl : q = 25 := by omega
                      exact fhgt_24_25
                  · rcases Nat.lt_or_ge q 27 with gq | gq
                    · obtain rfl : q = 26 := by omega
                      exact fhgt_24_26
                    · obtain rfl : q = 27 := by omega
                      exact fhgt_24_27
                · rcases Nat.lt_or_ge q 30 with gq | gq
                  · rcases Nat.lt_or_ge q 29 with gq | gq
                    · obtain rfl : q = 28 := by omega
                      exact fhgt_24_28
                    · obtain rfl : q = 29 := by omega
                      exact fhgt_24_29
                  · rcases Nat.lt_or_ge q 31 with gq | gq
                    · obtain rfl : q = 30 := by omega
                      exact fhgt_24_30
                    · obtain rfl : q = 31 := by omega
                      exact fhgt_24_31
          · obtain rfl : p = 25 := by omega
            rcases Nat.lt_or_ge q 16 with gq | gq
            · rcases Nat.lt_or_ge q 8 with gq | gq
              · rcases Nat.lt_or_ge q 4 with gq | gq
                · rcases Nat.lt_or_ge q 2 with gq | gq
                  · rcases Nat.lt_or_ge q 1 with gq | gq
                    · obtain rfl : q = 0 := by omega
                      exact fhgt_25_0
                    · obtain rfl : q = 1 := by omega
                      exact fhgt_25_1
                  · rcases Nat.lt_or_ge q 3 with gq | gq
                    · obtain rfl : q = 2 := by omega
                      exact fhgt_25_2
                    · obtain rfl : q = 3 := by omega
                      exact fhgt_25_3
                · rcases Nat.lt_or_ge q 6 with gq | gq
                  · rcases Nat.lt_or_ge q 5 with gq | gq
                    · obtain rfl : q = 4 := by omega
                      exact fhgt_25_4
                    · obtain rfl : q = 5 := by omega
                      exact fhgt_25_5
                  · rcases Nat.lt_or_ge q 7 with gq | gq
                    · obtain rfl : q = 6 := by omega
                      exact fhgt_25_6
                    · obtain rfl : q = 7 := by omega
                      exact fhgt_25_7
              · rcases Nat.lt_or_ge q 12 with gq | gq
                · rcases Nat.lt_or_ge q 10 with gq | gq
                  · rcases Nat.lt_or_ge q 9 with gq | gq
                    · obtain rfl : q = 8 := by omega
                      exact fhgt_25_8
                    · obtain rfl : q = 9 := by omega
                      exact fhgt_25_9
                  · rcases Nat.lt_or_ge q 11 with gq | gq
                    · obtain rfl : q = 10 := by omega
                      exact fhgt_25_10
                    · obtain rfl : q = 11 := by omega
                      exact fhgt_25_11
                · rcases Nat.lt_or_ge q 14 with gq | gq
                  · rcases Nat.lt_or_ge q 13 with gq | gq
                    · obtain rfl : q = 12 := by omega
                      exact fhgt_25_12
                    · obtain rfl : q = 13 := by omega
                      exact fhgt_25_13
                  · rcases Nat.lt_or_ge q 15 with gq | gq
                    · obtain rfl : q = 14 := by omega
                      exact fhgt_25_14
                    · obtain rfl : q = 15 := by omega
                      exact fhgt_25_15
            · rcases Nat.lt_or_ge q 24 with gq | gq
              · rcases Nat.lt_or_ge q 20 with gq | gq
                · rcases Nat.lt_or_ge q 18 with gq | gq
                  · rcases Nat.lt_or_ge q 17 with gq | gq
                    · obtain rfl : q = 16 := by omega
                      exact fhgt_25_16
                    · obtain rfl : q = 17 := by omega
                      exact fhgt_25_17
                  · rcases Nat.lt_or_ge q 19 with gq | gq
                    · obtain rfl : q = 18 := by omega
                      exact fhgt_25_18
                    · obtain rfl : q = 19 := by omega
                      exact fhgt_25_19
                · rcases Nat.lt_or_ge q 22 with gq | gq
                  · rcases Nat.lt_or_ge q 21 with gq | gq
                    · obtain rfl : q = 20 := by omega
                      exact fhgt_25_20
                    · obtain rfl : q = 21 := by omega
                      exact fhgt_25_21
                  · rcases Nat.lt_or_ge q 23 with gq | gq
                    · obtain rfl : q = 22 := by omega
                      exact fhgt_25_22
                    · obtain rfl : q = 23 := by omega
                      exact fhgt_25_23
              · rcases Nat.lt_or_ge q 28 with gq | gq
                · rcases Nat.lt_or_ge q 26 with gq | gq
                  · rcases Nat.lt_or_ge q 25 with gq | gq
                    · obtain rfl : q = 24 := by omega
                      exact fhgt_25_24
                    · obtain rfl : q = 25 := by omega
                      exact fhgt_25_25
                  · rcases Nat.lt_or_ge q 27 with gq | gq
                    · obtain rfl : q = 26 := by omega
                      exact fhgt_25_26
                    · obtain rfl : q = 27 := by omega
                      exact fhgt_25_27
                · rcases Nat.lt_or_ge q 30 with gq | gq
                  · rcases Nat.lt_or_ge q 29 with gq | gq
                    · obtain rfl : q = 28 := by omega
                      exact fhgt_25_28
                    · obtain rfl : q = 29 := by omega
                      exact fhgt_25_29
                  · rcases Nat.lt_or_ge q 31 with gq | gq
                    · obtain rfl : q = 30 := by omega
                      exact fhgt_25_30
                    · obtain rfl : q = 31 := by omega
                      exact fhgt_25_31
        · rcases Nat.lt_or_ge p 27 with gp | gp
          · obtain rfl : p = 26 := by omega
            rcases Nat.lt_or_ge q 16 with gq | gq
            · rcases Nat.lt_or_ge q 8 with gq | gq
              · rcases Nat.lt_or_ge q 4 with gq | gq
                · rcases Nat.lt_or_ge q 2 with gq | gq
                  · rcases Nat.lt_or_ge q 1 with gq | gq
                    · obtain rfl : q = 0 := by omega
                      exact fhgt_26_0
                    · obtain rfl : q = 1 := by omega
                      exact fhgt_26_1
                  · rcases Nat.lt_or_ge q 3 with gq | gq
                    · obtain rfl : q = 2 := by omega
                      exact fhgt_26_2
                    · obtain rfl : q = 3 := by omega
                      exact fhgt_26_3
                · rcases Nat.lt_or_ge q 6 with gq | gq
                  · rcases Nat.lt_or_ge q 5 with gq | gq
                    · obtain rfl : q = 4 := by omega
                      exact fhgt_26_4
                    · obtain rfl : q = 5 := by omega
                      exact fhgt_26_5
                  · rcases Nat.lt_or_ge q 7 with gq | gq
                    · obtain rfl : q = 6 := by omega
                      exact fhgt_26_6
                    · obtain rfl : q = 7 := by omega
                      exact fhgt_26_7
              · rcases Nat.lt_or_ge q 12 with gq | gq
                · rcases Nat.lt_or_ge q 10 with gq | gq
                  · rcases Nat.lt_or_ge q 9 with gq | gq
                    · obtain rfl : q = 8 := by omega
                      exact fhgt_26_8
                    · obtain rfl : q = 9 := by omega
                      exact fhgt_26_9
                  · rcases Nat.lt_or_ge q 11 with gq | gq
                    · obtain rfl : q = 10 := by omega
                      exact fhgt_26_10
                    · obtain rfl : q = 11 := by omega
                      exact fhgt_26_11
                · rcases Nat.lt_or_ge q 14 with gq | gq
                  · rcases Nat.lt_or_ge q 13 with gq | gq
                    · obtain rfl : q = 12 := by omega
                      exact fhgt_26_12
                    · obtain rfl : q = 13 := by omega
                      exact fhgt_26_13
                  · rcases Nat.lt_or_ge q 15 with gq | gq
                    · obtain rfl : q = 14 := by omega
                      exact fhgt_26_14
                    · obtain rfl : q = 15 := by omega
                      exact fhgt_26_15
            · rcases Nat.lt_or_ge q 24 with gq | gq
              · rcases Nat.lt_or_ge q 20 with gq | gq
                · rcases Nat.lt_or_ge q 18 with gq | gq
                  · rcases Nat.lt_or_ge q 17 with gq | gq
                    · obtain rfl : q = 16 := by omega
                      exact fhgt_26_16
                    · obtain rfl : q = 17 := by omega
                      exact fhgt_26_17
                  · rcases Nat.lt_or_ge q 19 with gq | gq
                    · obtain rfl : q = 18 := by omega
                      exact fhgt_26_18
                    · obtain rfl : q = 19 := by omega
                      exact fhgt_26_19
                · rcases Nat.lt_or_ge q 22 with gq | gq
                  · rcases Nat.lt_or_ge q 21 with gq | gq
                    · obtain rfl : q = 20 := by omega
                      exact fhgt_26_20
                    · obtain rfl : q = 21 := by omega
                      exact fhgt_26_21
                  · rcases Nat.lt_or_ge q 23 with gq | gq
                    · obtain rfl : q = 22 := by omega
                      exact fhgt_26_22
                    · obtain rfl : q = 23 := by omega
                      exact fhgt_26_23
              · rcases Nat.lt_or_ge q 28 with gq | gq
                · rcases Nat.lt_or_ge q 26 with gq | gq
                  · rcases Nat.lt_or_ge q 25 with gq | gq
                    · obtain rfl : q = 24 := by omega
                      exact fhgt_26_24
                    · obtain rfl : q = 25 := by omega
                      exact fhgt_26_25
                  · rcases Nat.lt_or_ge q 27 with gq | gq
                    · obtain rfl : q = 26 := by omega
                      exact fhgt_26_26
                    · obtain rfl : q = 27 := by omega
                      exact fhgt_26_27
                · rcases Nat.lt_or_ge q 30 with gq | gq
                  · rcases Nat.lt_or_ge q 29 with gq | gq
                    · obtain rfl : q = 28 := by omega
                      exact fhgt_26_28
                    · obtain rfl : q = 29 := by omega
                      exact fhgt_26_29
                  · rcases Nat.lt_or_ge q 31 with gq | gq
                    · obtain rfl : q = 30 := by omega
                      exact fhgt_26_30
                    · obtain rfl : q = 31 := by omega
                      exact fhgt_26_31
          · obtain rfl : p = 27 := by omega
            rcases Nat.lt_or_ge q 16 with gq | gq
            · rcases Nat.lt_or_ge q 8 with gq | gq
              · rcases Nat.lt_or_ge q 4 with gq | gq
                · rcases Nat.lt_or_ge q 2 with gq | gq
                  · rcases Nat.lt_or_ge q 1 with gq | gq
                    · obtain rfl : q = 0 := by omega
                      exact fhgt_27_0
                    · obtain rfl : q = 1 := by omega
                      exact fhgt_27_1
                  · rcases Nat.lt_or_ge q 3 with gq | gq
                    · obtain rfl : q = 2 := by omega
                      exact fhgt_27_2
                    · obtain rfl : q = 3 := by omega
                      exact fhgt_27_3
                · rcases Nat.lt_or_ge q 6 with gq | gq
                  · rcases Nat.lt_or_ge q 5 with gq | gq
                    · obtain rfl : q = 4 := by omega
                      exact fhgt_27_4
                    · obtain rfl : q = 5 := by omega
                      exact fhgt_27_5
                  · rcases Nat.lt_or_ge q 7 with gq | gq
                    · obtain rfl : q = 6 := by omega
                      exact fhgt_27_6
                    · obtain rfl : q = 7 := by omega
                      exact fhgt_27_7
              · rcases Nat.lt_or_ge q 12 with gq | gq
                · rcases Nat.lt_or_ge q 10 with gq | gq
                  · rcases Nat.lt_or_ge q 9 with gq | gq
                    · obtain rfl : q = 8 := by omega
                      exact fhgt_27_8
                    · obtain rfl : q = 9 := by omega
                      exact fhgt_27_9
                  · rcases Nat.lt_or_ge q 11 with gq | gq
                    · obtain rfl : q = 10 := by omega
                      exact fhgt_27_10
                    · obtain rfl : q = 11 := by omega
                      exact fhgt_27_11
                · rcases Nat.lt_or_ge q 14 with gq | gq
                  · rcases Nat.lt_or_ge q 13 with gq | gq
                    · obtain rfl : q = 12 := by omega
                      exact fhgt_27_12
                    · obtain rfl : q = 13 := by omega
                      exact fhgt_27_13
                  · rcases Nat.lt_or_ge q 15 with gq | gq
                    · obtain rfl : q = 14 := by omega
                      exact fhgt_27_14
                    · obtain rfl : q = 15 := by omega
                      exact fhgt_27_15
            · rcases Nat.lt_or_ge q 24 with gq | gq
              · rcases Nat.lt_or_ge q 20 with gq | gq
                · rcases Nat.lt_or_ge q 18 with gq | gq
                  · rcases Nat.lt_or_ge q 17 with gq | gq
                    · obtain rfl : q = 16 := by omega
                      exact fhgt_27_16
                    · obtain rfl : q = 17 := by omega
                      exact fhgt_27_17
                  · rcases Nat.lt_or_ge q 19 with gq | gq
                    · obtain rfl : q = 18 := by omega
                      exact fhgt_27_18
                    · obtain rfl : q = 19 := by omega
                      exact fhgt_27_19
                · rcases Nat.lt_or_ge q 22 with gq | gq
                  · rcases Nat.lt_or_ge q 21 with gq | gq
                    · obtain rfl : q = 20 := by omega
                      exact fhgt_27_20
                    · obtain rfl : q = 21 := by omega
                      exact fhgt_27_21
                  · rcases Nat.lt_or_ge q 23 with gq | gq
                    · obtain rfl : q = 22 := by omega
                      exact fhgt_27_22
                    · obtain rfl : q = 23 := by omega
                      exact fhgt_27_23
              · rcases Nat.lt_or_ge q 28 with gq | gq
                · rcases Nat.lt_or_ge q 26 with gq | gq
                  · rcases Nat.lt_or_ge q 25 with gq | gq
                    · obtain rfl : q = 24 := by omega
                      exact fhgt_27_24
                    · obtain rfl : q = 25 := by omega
                      exact fhgt_27_25
                  · rcases Nat.lt_or_ge q 27 with gq | gq
                    · obtain rfl : q = 26 := by omega
                      exact fhgt_27_26
                    · obtain rfl : q = 27 := by omega
                      exact fhgt_27_27
                · rcases Nat.lt_or_ge q 30 with gq | gq
                  · rcases Nat.lt_or_ge q 29 with gq | gq
                    · obtain rfl : q = 28 := by omega
                      exact fhgt_27_28
                    · obtain rfl : q = 29 := by omega
                      exact fhgt_27_29
                  · rcases Nat.lt_or_ge q 31 with gq | gq
                    · obtain rfl : q = 30 := by omega
                      exact fhgt_27_30
                    · obtain rfl : q = 31 := by omega
                      exact fhgt_27_31
      · rcases Nat.lt_or_ge p 30 with gp | gp
        · rcases Nat.lt_or_ge p 29 with gp | gp
          · obtain rfl : p = 28 := by omega
            rcases Nat.lt_or_ge q 16 with gq | gq
            · rcases Nat.lt_or_ge q 8 with gq | gq
              · rcases Nat.lt_or_ge q 4 with gq | gq
                · rcases Nat.lt_or_ge q 2 with gq | gq
                  · rcases Nat.lt_or_ge q 1 with gq | gq
                    · obtain rfl : q = 0 := by omega
                      exact fhgt_28_0
                    · obtain rfl : q = 1 := by omega
                      exact fhgt_28_1
                  · rcases Nat.lt_or_ge q 3 with gq | gq
                    · obtain rfl : q = 2 := by omega
                      exact fhgt_28_2
                    · obtain rfl : q = 3 := by omega
                      exact fhgt_28_3
                · rcases Nat.lt_or_ge q 6 with gq | gq
                  · rcases Nat.lt_or_ge q 5 with gq | gq
                    · obtain rfl : q = 4 := by omega
                      exact fhgt_28_4
                    · obtain rfl : q = 5 := by omega
                      exact fhgt_28_5
                  · rcases Nat.lt_or_ge q 7 with gq | gq
                    · obtain rfl : q = 6 := by omega
                      exact fhgt_28_6
                    · obtain rfl : q = 7 := by omega
                      exact fhgt_28_7
              · rcases Nat.lt_or_ge q 12 with gq | gq
                · rcases Nat.lt_or_ge q 10 with gq | gq
                  · rcases Nat.lt_or_ge q 9 with gq | gq
                    · obtain rfl : q = 8 := by omega
                      exact fhgt_28_8
                    · obtain rfl : q = 9 := by omega
                      exact fhgt_28_9
                  · rcases Nat.lt_or_ge q 11 with gq | gq
                    · obtain rfl : q = 10 := by omega
                      exact fhgt_28_10
                    · obtain rfl : q = 11 := by omega
                      exact fhgt_28_11
                · rcases Nat.lt_or_ge q 14 with gq | gq
                  · rcases Nat.lt_or_ge q 13 with gq | gq
                    · obtain rfl : q = 12 := by omega
                      exact fhgt_28_12
                    · obtain rfl : q = 13 := by omega
                      exact fhgt_28_13
                  · rcases Nat.lt_or_ge q 15 with gq | gq
                    · obtain rfl : q = 14 := by omega
                      exact fhgt_28_14
                    · obtain rfl : q = 15 := by omega
                      exact fhgt_28_15
            · rcases Nat.lt_or_ge q 24 with gq | gq
              · rcases Nat.lt_or_ge q 20 with gq | gq
                · rcases Nat.lt_or_ge q 18 with gq | gq
                  · rcases Nat.lt_or_ge q 17 with gq | gq
                    · obtain rfl : q = 16 := by omega
                      exact fhgt_28_16
                    · obtain rfl : q = 17 := by omega
                      exact fhgt_28_17
                  · rcases Nat.lt_or_ge q 19 with gq | gq
                    · obtain rfl : q = 18 := by omega
                      exact fhgt_28_18
                    · obtain rfl : q = 19 := by omega
                      exact fhgt_28_19
                · rcases Nat.lt_or_ge q 22 with gq | gq
                  · rcases Nat.lt_or_ge q 21 with gq | gq
                    · obtain rfl : q = 20 := by omega
                      exact fhgt_28_20
                    · obtain rfl : q = 21 := by omega
                      exact fhgt_28_21
                  · rcases Nat.lt_or_ge q 23 with gq | gq
                    · obtain rfl : q = 22 := by omega
                      exact fhgt_28_22
                    · obtain rfl : q = 23 := by omega
                      exact fhgt_28_23
              · rcases Nat.lt_or_ge q 28 with gq | gq
                · rcases Nat.lt_or_ge q 26 with gq | gq
                  · rcases Nat.lt_or_ge q 25 with gq | gq
                    · obtain rfl : q = 24 := by omega
                      exact fhgt_28_24
                    · obtain rfl : q = 25 := by omega
                      exact fhgt_28_25
                  · rcases Nat.lt_or_ge q 27 with gq | gq
                    · obtain rfl : q = 26 := by omega
                      exact fhgt_28_26
                    · obtain rfl : q = 27 := by omega
                      exact fhgt_28_27
                · rcases Nat.lt_or_ge q 30 with gq | gq
                  · rcases Nat.lt_or_ge q 29 with gq | gq
                    · obtain rfl : q = 28 := by omega
                      exact fhgt_28_28
                    · obtain rfl : q = 29 := by omega
                      exact fhgt_28_29
                  · rcases Nat.lt_or_ge q 31 with gq | gq
                    · obtain rfl : q = 30 := by omega
                      exact fhgt_28_30
                    · obtain rfl : q = 31 := by omega
                      exact fhgt_28_31
          · obtain rfl : p = 29 := by omega
            rcases Nat.lt_or_ge q 16 with gq | gq
            · rcases Nat.lt_or_ge q 8 with gq | gq
              · rcases Nat.lt_or_ge q 4 with gq | gq
                · rcases Nat.lt_or_ge q 2 with gq | gq
                  · rcases Nat.lt_or_ge q 1 with gq | gq
                    · obtain rfl : q = 0 := by omega
                      exact fhgt_29_0
                    · obtain rfl : q = 1 := by omega
                      exact fhgt_29_1
                  · rcases Nat.lt_or_ge q 3 with gq | gq
                    · obtain rfl : q = 2 := by omega
                      exact fhgt_29_2
                    · obtain rfl : q = 3 := by omega
                      exact fhgt_29_3
                · rcases Nat.lt_or_ge q 6 with gq | gq
                  · rcases Nat.lt_or_ge q 5 with gq | gq
                    · obtain rfl : q = 4 := by omega
                      exact fhgt_29_4
                    · obtain rfl : q = 5 := by omega
                      exact fhgt_29_5
                  · rcases Nat.lt_or_ge q 7 with gq | gq
                    · obtain rfl : q = 6 := by omega
                      exact fhgt_29_6
                    · obtain rfl : q = 7 := by omega
                      exact fhgt_29_7
              · rcases Nat.lt_or_ge q 12 with gq | gq
                · rcases Nat.lt_or_ge q 10 with gq | gq
                  · rcases Nat.lt_or_ge q 9 with gq | gq
                    · obtain rfl : q = 8 := by omega
                      exact fhgt_29_8
                    · obtain rfl : q = 9 := by omega
                      exact fhgt_29_9
                  · rcases Nat.lt_or_ge q 11 with gq | gq
                    · obtain rfl : q = 10 := by omega
                      exact fhgt_29_10
                    · obtain rfl : q = 11 := by omega
                      exact fhgt_29_11
                · rcases Nat.lt_or_ge q 14 with gq | gq
                  · rcases Nat.lt_or_ge q 13 with gq | gq
                    · obtain rfl : q = 12 := by omega
                      exact fhgt_29_12
                    · obtain rfl : q = 13 := by omega
                      exact fhgt_29_13
                  · rcases Nat.lt_or_ge q 15 with gq | gq
                    · obtain rfl : q = 14 := by omega
                      exact fhgt_29_14
                    · obtain rfl : q = 15 := by omega
                      exact fhgt_29_15
            · rcases Nat.lt_or_ge q 24 with gq | gq
              · rcases Nat.lt_or_ge q 20 with gq | gq
                · rcases Nat.lt_or_ge q 18 with gq | gq
                  · rcases Nat.lt_or_ge q 17 with gq | gq
                    · obtain rfl : q = 16 := by omega
                      exact fhgt_29_16
                    · obtain rfl : q = 17 := by omega
                      exact fhgt_29_17
                  · rcases Nat.lt_or_ge q 19 with gq | gq
                    · obtain rfl : q = 18 := by omega
                      exact fhgt_29_18
                    · obtain rfl : q = 19 := by omega
                      exact fhgt_29_19
                · rcases Nat.lt_or_ge q 22 with gq | gq
                  · rcases Nat.lt_or_ge q 21 with gq | gq
                    · obtain rfl : q = 20 := by omega
                      exact fhgt_29_20
                    · obtain rfl : q = 21 := by omega
                      exact fhgt_29_21
                  · rcases Nat.lt_or_ge q 23 with gq | gq
                    · obtain rfl : q = 22 := by omega
                      exact fhgt_29_22
                    · obtain rfl : q = 23 := by omega
                      exact fhgt_29_23
              · rcases Nat.lt_or_ge q 28 with gq | gq
                · rcases Nat.lt_or_ge q 26 with gq | gq
                  · rcases Nat.lt_or_ge q 25 with gq | gq
                    · obtain rfl : q = 24 := by omega
                      exact fhgt_29_24
                    · obtain rfl : q = 25 := by omega
                      exact fhgt_29_25
                  · rcases Nat.lt_or_ge q 27 with gq | gq
                    · obtain rfl : q = 26 := by omega
                      exact fhgt_29_26
                    · obtain rfl : q = 27 := by omega
                      exact fhgt_29_27
                · rcases Nat.lt_or_ge q 30 with gq | gq
                  · rcases Nat.lt_or_ge q 29 with gq | gq
                    · obtain rfl : q = 28 := by omega
                      exact fhgt_29_28
                    · obtain rfl : q = 29 := by omega
                      exact fhgt_29_29
                  · rcases Nat.lt_or_ge q 31 with gq | gq
                    · obtain rfl : q = 30 := by omega
                      exact fhgt_29_30
                    · obtain rfl : q = 31 := by omega
                      exact fhgt_29_31
        · rcases Nat.lt_or_ge p 31 with gp | gp
          · obtain rfl : p = 30 := by omega
            rcases Nat.lt_or_ge q 16 with gq | gq
            · rcases Nat.lt_or_ge q 8 with gq | gq
              · rcases Nat.lt_or_ge q 4 with gq | gq
                · rcases Nat.lt_or_ge q 2 with gq | gq
                  · rcases Nat.lt_or_ge q 1 with gq | gq
                    · obtain rfl : q = 0 := by omega
                      exact fhgt_30_0
                    · obtain rfl : q = 1 := by omega
                      exact fhgt_30_1
                  · rcases Nat.lt_or_ge q 3 with gq | gq
                    · obtain rfl : q = 2 := by omega
                      exact fhgt_30_2
                    · obtain rfl : q = 3 := by omega
                      exact fhgt_30_3
                · rcases Nat.lt_or_ge q 6 with gq | gq
                  · rcases Nat.lt_or_ge q 5 with gq | gq
                    · obtain rfl : q = 4 := by omega
                      exact fhgt_30_4
                    · obtain rfl : q = 5 := by omega
                      exact fhgt_30_5
                  · rcases Nat.lt_or_ge q 7 with gq | gq
                    · obtain rfl : q = 6 := by omega
                      exact fhgt_30_6
                    · obtain rfl : q = 7 := by omega
                      exact fhgt_30_7
              · rcases Nat.lt_or_ge q 12 with gq | gq
                · rcases Nat.lt_or_ge q 10 with gq | gq
                  · rcases Nat.lt_or_ge q 9 with gq | gq
                    · obtain rfl : q = 8 := by omega
                      exact fhgt_30_8
                    · obtain rfl : q = 9 := by omega
                      exact fhgt_30_9
                  · rcases Nat.lt_or_ge q 11 with gq | gq
                    · obtain rfl : q = 10 := by omega
                      exact fhgt_30_10
                    · obtain rfl : q = 11 := by omega
                      exact fhgt_30_11
                · rcases Nat.lt_or_ge q 14 with gq | gq
                  · rcases Nat.lt_or_ge q 13 with gq | gq
                    · obtain rfl : q = 12 := by omega
                      exact fhgt_30_12
                    · obtain rfl : q = 13 := by omega
                      exact fhgt_30_13
                  · rcases Nat.lt_or_ge q 15 with gq | gq
                    · obtain rfl : q = 14 := by omega
                      exact fhgt_30_14
                    · obtain rfl : q = 15 := by omega
                      exact fhgt_30_15
            · rcases Nat.lt_or_ge q 24 with gq | gq
              · rcases Nat.lt_or_ge q 20 with gq | gq
                · rcases Nat.lt_or_ge q 18 with gq | gq
                  · rcases Nat.lt_or_ge q 17 with gq | gq
                    · obtain rfl : q = 16 := by omega
                      exact fhgt_30_16
                    · obtain rfl : q = 17 := by omega
                      exact fhgt_30_17
                  · rcases Nat.lt_or_ge q 19 with gq | gq
                    · obtain rfl : q = 18 := by omega
                      exact fhgt_30_18
                    · obtain rfl : q = 19 := by omega
                      exact fhgt_30_19
                · rcases Nat.lt_or_ge q 22 with gq | gq
                  · rcases Nat.lt_or_ge q 21 with gq | gq
                    · obtain rfl : q = 20 := by omega
                      exact fhgt_30_20
                    · obtain rfl : q = 21 := by omega
                      exact fhgt_30_21
                  · rcases Nat.lt_or_ge q 23 with gq | gq
                    · obtain rfl : q = 22 := by omega
                      exact fhgt_30_22
                    · obtain rfl : q = 23 := by omega
                      exact fhgt_30_23
              · rcases Nat.lt_or_ge q 28 with gq | gq
                · rcases Nat.lt_or_ge q 26 with gq | gq
                  · rcases Nat.lt_or_ge q 25 with gq | gq
                    · obtain rfl : q = 24 := by omega
                      exact fhgt_30_24
                    · obtain rfl : q = 25 := by omega
                      exact fhgt_30_25
                  · rcases Nat.lt_or_ge q 27 with gq | gq
                    · obtain rfl : q = 26 := by omega
                      exact fhgt_30_26
                    · obtain rfl : q = 27 := by omega
                      exact fhgt_30_27
                · rcases Nat.lt_or_ge q 30 with gq | gq
                  · rcases Nat.lt_or_ge q 29 with gq | gq
                    · obtain rfl : q = 28 := by omega
                      exact fhgt_30_28
                    · obtain rfl : q = 29 := by omega
                      exact fhgt_30_29
                  · rcases Nat.lt_or_ge q 31 with gq | gq
                    · obtain rfl : q = 30 := by omega
                      exact fhgt_30_30
                    · obtain rfl : q = 31 := by omega
                      exact fhgt_30_31
          · obtain rfl : p = 31 := by omega
            rcases Nat.lt_or_ge q 16 with gq | gq
            · rcases Nat.lt_or_ge q 8 with gq | gq
              · rcases Nat.lt_or_ge q 4 with gq | gq
                · rcases Nat.lt_or_ge q 2 with gq | gq
                  · rcases Nat.lt_or_ge q 1 with gq | gq
                    · obtain rfl : q = 0 := by omega
                      exact fhgt_31_0
                    · obtain rfl : q = 1 := by omega
                      exact fhgt_31_1
                  · rcases Nat.lt_or_ge q 3 with gq | gq
                    · obtain rfl : q = 2 := by omega
                      exact fhgt_31_2
                    · obtain rfl : q = 3 := by omega
                      exact fhgt_31_3
                · rcases Nat.lt_or_ge q 6 with gq | gq
                  · rcases Nat.lt_or_ge q 5 with gq | gq
                    · obtain rfl : q = 4 := by omega
                      exact fhgt_31_4
                    · obtain rfl : q = 5 := by omega
                      exact fhgt_31_5
                  · rcases Nat.lt_or_ge q 7 with gq | gq
                    · obtain rfl : q = 6 := by omega
                      exact fhgt_31_6
                    · obtain rfl : q = 7 := by omega
                      exact fhgt_31_7
              · rcases Nat.lt_or_ge q 12 with gq | gq
                · rcases Nat.lt_or_ge q 10 with gq | gq
                  · rcases Nat.lt_or_ge q 9 with gq | gq
                    · obtain rfl : q = 8 := by omega
                      exact fhgt_31_8
                    · obtain rfl : q = 9 := by omega
                      exact fhgt_31_9
                  · rcases Nat.lt_or_ge q 11 with gq | gq
                    · obtain rfl : q = 10 := by omega
                      exact fhgt_31_10
                    · obtain rfl : q = 11 := by omega
                      exact fhgt_31_11
                · rcases Nat.lt_or_ge q 14 with gq | gq
                  · rcases Nat.lt_or_ge q 13 with gq | gq
                    · obtain rfl : q = 12 := by omega
                      exact fhgt_31_12
                    · obtain rfl : q = 13 := by omega
                      exact fhgt_31_13
                  · rcases Nat.lt_or_ge q 15 with gq | gq
                    · obtain rfl : q = 14 := by omega
                      exact fhgt_31_14
                    · obtain rfl : q = 15 := by omega
                      exact fhgt_31_15
            · rcases Nat.lt_or_ge q 24 with gq | gq
              · rcases Nat.lt_or_ge q 20 with gq | gq
                · rcases Nat.lt_or_ge q 18 with gq | gq
                  · rcases Nat.lt_or_ge q 17 with gq | gq
                    · obtain rfl : q = 16 := by omega
                      exact fhgt_31_16
                    · obtain rfl : q = 17 := by omega
                      exact fhgt_31_17
                  · rcases Nat.lt_or_ge q 19 with gq | gq
                    · obtain rfl : q = 18 := by omega
                      exact fhgt_31_18
                    · obtain rfl : q = 19 := by omega
                      exact fhgt_31_19
                · rcases Nat.lt_or_ge q 22 with gq | gq
                  · rcases Nat.lt_or_ge q 21 with gq | gq
                    · obtain rfl : q = 20 := by omega
                      exact fhgt_31_20
                    · obtain rfl : q = 21 := by omega
                      exact fhgt_31_21
                  · rcases Nat.lt_or_ge q 23 with gq | gq
                    · obtain rfl : q = 22 := by omega
                      exact fhgt_31_22
                    · obtain rfl : q = 23 := by omega
                      exact fhgt_31_23
              · rcases Nat.lt_or_ge q 28 with gq | gq
                · rcases Nat.lt_or_ge q 26 with gq | gq
                  · rcases Nat.lt_or_ge q 25 with gq | gq
                    · obtain rfl : q = 24 := by omega
                      exact fhgt_31_24
                    · obtain rfl : q = 25 := by omega
                      exact fhgt_31_25
                  · rcases Nat.lt_or_ge q 27 with gq | gq
                    · obtain rfl : q = 26 := by omega
                      exact fhgt_31_26
                    · obtain rfl : q = 27 := by omega
                      exact fhgt_31_27
                · rcases Nat.lt_or_ge q 30 with gq | gq
                  · rcases Nat.lt_or_ge q 29 with gq | gq
                    · obtain rfl : q = 28 := by omega
                      exact fhgt_31_28
                    · obtain rfl : q = 29 := by omega
                      exact fhgt_31_29
                  · rcases Nat.lt_or_ge q 31 with gq | gq
                    · obtain rfl : q = 30 := by omega
                      exact fhgt_31_30
                    · obtain rfl : q = 31 := by omega
                      exact fhgt_31_31
theorem fhgt_any (a : Int) (b : Int) (w : World) : Calls Try.prog 3 #[.int .i64 a, .int .i64 b] w fun e w' => e = .returned (.bool true) ∧ Go.RowKit.Below w.heap.size w w' := by
  obtain ⟨p, hp, fp⟩ := mask_and a 31 (by decide)
  have kp : (MK.and 0 31 p).OK (rhoL [a, b]) := fp
  obtain ⟨q, hq, fq⟩ := mask_and b 31 (by decide)
  have kq : (MK.and 1 31 q).OK (rhoL [a, b]) := fq
  exact runM_calls awake_run (ρ := rhoL [a, b]) ivs_nil (all_cons kp (all_cons kq all_nil)) (by decide) (fhgt_all p q (by omega) (by omega)) (.cons (.int rfl) (.cons (.int rfl) .nil)) w
end Go.Proofs.Ytmloopjfjnjgiaa
