/-
  TopSum: what a call of it comes to.
-/
import Derived.Test.YtgccmnnenhncpaaGreatDoorLawTopSumC0
import Derived.Test.YtgccmnnenhncpaaGreatDoorLawTopSumC1
import Derived.Test.YtgccmnnenhncpaaGreatDoorLawTopSumC2
import Derived.Test.YtgccmnnenhncpaaGreatDoorLawTopSumC3
import Derived.Test.YtgccmnnenhncpaaGreatDoorLawTopSumC4
import Derived.Test.YtgccmnnenhncpaaGreatDoorLawTopSumC5
import Derived.Test.YtgccmnnenhncpaaGreatDoorLawTopSumC6
import Derived.Test.YtgccmnnenhncpaaGreatDoorLawTopSumC7
import Derived.Test.YtgccmnnenhncpaaGreatDoorLawTopSumD0
import Derived.Test.YtgccmnnenhncpaaGreatDoorLawTopSumD1
import Derived.Test.YtgccmnnenhncpaaGreatDoorLawTopSumD2
import Derived.Test.YtgccmnnenhncpaaGreatDoorLawTopSumD3
import Derived.Test.YtgccmnnenhncpaaGreatDoorLawTopSumD4
import Derived.Test.YtgccmnnenhncpaaGreatDoorLawTopSumD5
import Derived.Test.YtgccmnnenhncpaaGreatDoorLawTopSumD6
import Derived.Test.YtgccmnnenhncpaaGreatDoorLawTopSumD7
namespace Go.Proofs.YtgccmnnenhncpaaGreatDoor
open Go Vx

theorem tsum_all (p : Nat) (hp : p < 64) : tsumB p = true := by
  rcases Nat.lt_or_ge p 32 with gp | gp
  · rcases Nat.lt_or_ge p 16 with gp | gp
    · rcases Nat.lt_or_ge p 8 with gp | gp
      · rcases Nat.lt_or_ge p 4 with gp | gp
        · rcases Nat.lt_or_ge p 2 with gp | gp
          · rcases Nat.lt_or_ge p 1 with gp | gp
            · obtain rfl : p = 0 := by omega
              exact tsum_0
            · obtain rfl : p = 1 := by omega
              exact tsum_1
          · rcases Nat.lt_or_ge p 3 with gp | gp
            · obtain rfl : p = 2 := by omega
              exact tsum_2
            · obtain rfl : p = 3 := by omega
              exact tsum_3
        · rcases Nat.lt_or_ge p 6 with gp | gp
          · rcases Nat.lt_or_ge p 5 with gp | gp
            · obtain rfl : p = 4 := by omega
              exact tsum_4
            · obtain rfl : p = 5 := by omega
              exact tsum_5
          · rcases Nat.lt_or_ge p 7 with gp | gp
            · obtain rfl : p = 6 := by omega
              exact tsum_6
            · obtain rfl : p = 7 := by omega
              exact tsum_7
      · rcases Nat.lt_or_ge p 12 with gp | gp
        · rcases Nat.lt_or_ge p 10 with gp | gp
          · rcases Nat.lt_or_ge p 9 with gp | gp
            · obtain rfl : p = 8 := by omega
              exact tsum_8
            · obtain rfl : p = 9 := by omega
              exact tsum_9
          · rcases Nat.lt_or_ge p 11 with gp | gp
            · obtain rfl : p = 10 := by omega
              exact tsum_10
            · obtain rfl : p = 11 := by omega
              exact tsum_11
        · rcases Nat.lt_or_ge p 14 with gp | gp
          · rcases Nat.lt_or_ge p 13 with gp | gp
            · obtain rfl : p = 12 := by omega
              exact tsum_12
            · obtain rfl : p = 13 := by omega
              exact tsum_13
          · rcases Nat.lt_or_ge p 15 with gp | gp
            · obtain rfl : p = 14 := by omega
              exact tsum_14
            · obtain rfl : p = 15 := by omega
              exact tsum_15
    · rcases Nat.lt_or_ge p 24 with gp | gp
      · rcases Nat.lt_or_ge p 20 with gp | gp
        · rcases Nat.lt_or_ge p 18 with gp | gp
          · rcases Nat.lt_or_ge p 17 with gp | gp
            · obtain rfl : p = 16 := by omega
              exact tsum_16
            · obtain rfl : p = 17 := by omega
              exact tsum_17
          · rcases Nat.lt_or_ge p 19 with gp | gp
            · obtain rfl : p = 18 := by omega
              exact tsum_18
            · obtain rfl : p = 19 := by omega
              exact tsum_19
        · rcases Nat.lt_or_ge p 22 with gp | gp
          · rcases Nat.lt_or_ge p 21 with gp | gp
            · obtain rfl : p = 20 := by omega
              exact tsum_20
            · obtain rfl : p = 21 := by omega
              exact tsum_21
          · rcases Nat.lt_or_ge p 23 with gp | gp
            · obtain rfl : p = 22 := by omega
              exact tsum_22
            · obtain rfl : p = 23 := by omega
              exact tsum_23
      · rcases Nat.lt_or_ge p 28 with gp | gp
        · rcases Nat.lt_or_ge p 26 with gp | gp
          · rcases Nat.lt_or_ge p 25 with gp | gp
            · obtain rfl : p = 24 := by omega
              exact tsum_24
            · obtain rfl : p = 25 := by omega
              exact tsum_25
          · rcases Nat.lt_or_ge p 27 with gp | gp
            · obtain rfl : p = 26 := by omega
              exact tsum_26
            · obtain rfl : p = 27 := by omega
              exact tsum_27
        · rcases Nat.lt_or_ge p 30 with gp | gp
          · rcases Nat.lt_or_ge p 29 with gp | gp
            · obtain rfl : p = 28 := by omega
              exact tsum_28
            · obtain rfl : p = 29 := by omega
              exact tsum_29
          · rcases Nat.lt_or_ge p 31 with gp | gp
            · obtain rfl : p = 30 := by omega
              exact tsum_30
            · obtain rfl : p = 31 := by omega
              exact tsum_31
  · rcases Nat.lt_or_ge p 48 with gp | gp
    · rcases Nat.lt_or_ge p 40 with gp | gp
      · rcases Nat.lt_or_ge p 36 with gp | gp
        · rcases Nat.lt_or_ge p 34 with gp | gp
          · rcases Nat.lt_or_ge p 33 with gp | gp
            · obtain rfl : p = 32 := by omega
              exact tsum_32
            · obtain rfl : p = 33 := by omega
              exact tsum_33
          · rcases Nat.lt_or_ge p 35 with gp | gp
            · obtain rfl : p = 34 := by omega
              exact tsum_34
            · obtain rfl : p = 35 := by omega
              exact tsum_35
        · rcases Nat.lt_or_ge p 38 with gp | gp
          · rcases Nat.lt_or_ge p 37 with gp | gp
            · obtain rfl : p = 36 := by omega
              exact tsum_36
            · obtain rfl : p = 37 := by omega
              exact tsum_37
          · rcases Nat.lt_or_ge p 39 with gp | gp
            · obtain rfl : p = 38 := by omega
              exact tsum_38
            · obtain rfl : p = 39 := by omega
              exact tsum_39
      · rcases Nat.lt_or_ge p 44 with gp | gp
        · rcases Nat.lt_or_ge p 42 with gp | gp
          · rcases Nat.lt_or_ge p 41 with gp | gp
            · obtain rfl : p = 40 := by omega
              exact tsum_40
            · obtain rfl : p = 41 := by omega
              exact tsum_41
          · rcases Nat.lt_or_ge p 43 with gp | gp
            · obtain rfl : p = 42 := by omega
              exact tsum_42
            · obtain rfl : p = 43 := by omega
              exact tsum_43
        · rcases Nat.lt_or_ge p 46 with gp | gp
          · rcases Nat.lt_or_ge p 45 with gp | gp
            · obtain rfl : p = 44 := by omega
              exact tsum_44
            · obtain rfl : p = 45 := by omega
              exact tsum_45
          · rcases Nat.lt_or_ge p 47 with gp | gp
            · obtain rfl : p = 46 := by omega
              exact tsum_46
            · obtain rfl : p = 47 := by omega
              exact tsum_47
    · rcases Nat.lt_or_ge p 56 with gp | gp
      · rcases Nat.lt_or_ge p 52 with gp | gp
        · rcases Nat.lt_or_ge p 50 with gp | gp
          · rcases Nat.lt_or_ge p 49 with gp | gp
            · obtain rfl : p = 48 := by omega
              exact tsum_48
            · obtain rfl : p = 49 := by omega
              exact tsum_49
          · rcases Nat.lt_or_ge p 51 with gp | gp
            · obtain rfl : p = 50 := by omega
              exact tsum_50
            · obtain rfl : p = 51 := by omega
              exact tsum_51
        · rcases Nat.lt_or_ge p 54 with gp | gp
          · rcases Nat.lt_or_ge p 53 with gp | gp
            · obtain rfl : p = 52 := by omega
              exact tsum_52
            · obtain rfl : p = 53 := by omega
              exact tsum_53
          · rcases Nat.lt_or_ge p 55 with gp | gp
            · obtain rfl : p = 54 := by omega
              exact tsum_54
            · obtain rfl : p = 55 := by omega
              exact tsum_55
      · rcases Nat.lt_or_ge p 60 with gp | gp
        · rcases Nat.lt_or_ge p 58 with gp | gp
          · rcases Nat.lt_or_ge p 57 with gp | gp
            · obtain rfl : p = 56 := by omega
              exact tsum_56
            · obtain rfl : p = 57 := by omega
              exact tsum_57
          · rcases Nat.lt_or_ge p 59 with gp | gp
            · obtain rfl : p = 58 := by omega
              exact tsum_58
            · obtain rfl : p = 59 := by omega
              exact tsum_59
        · rcases Nat.lt_or_ge p 62 with gp | gp
          · rcases Nat.lt_or_ge p 61 with gp | gp
            · obtain rfl : p = 60 := by omega
              exact tsum_60
            · obtain rfl : p = 61 := by omega
              exact tsum_61
          · rcases Nat.lt_or_ge p 63 with gp | gp
            · obtain rfl : p = 62 := by omega
              exact tsum_62
            · obtain rfl : p = 63 := by omega
              exact tsum_63
theorem tsum_ss (p : Nat) (hp : p < 64) (ρ : Env) : SumsOK ρ (tsumSS p) := by
  rcases Nat.lt_or_ge p 32 with gp | gp
  · rcases Nat.lt_or_ge p 16 with gp | gp
    · rcases Nat.lt_or_ge p 8 with gp | gp
      · rcases Nat.lt_or_ge p 4 with gp | gp
        · rcases Nat.lt_or_ge p 2 with gp | gp
          · rcases Nat.lt_or_ge p 1 with gp | gp
            · obtain rfl : p = 0 := by omega
              exact tsum_sums ρ
            · obtain rfl : p = 1 := by omega
              exact tsum_sums ρ
          · rcases Nat.lt_or_ge p 3 with gp | gp
            · obtain rfl : p = 2 := by omega
              exact tsum_sums ρ
            · obtain rfl : p = 3 := by omega
              exact tsum_sums ρ
        · rcases Nat.lt_or_ge p 6 with gp | gp
          · rcases Nat.lt_or_ge p 5 with gp | gp
            · obtain rfl : p = 4 := by omega
              exact tsum_sums ρ
            · obtain rfl : p = 5 := by omega
              exact tsum_sums ρ
          · rcases Nat.lt_or_ge p 7 with gp | gp
            · obtain rfl : p = 6 := by omega
              exact tsum_sums ρ
            · obtain rfl : p = 7 := by omega
              exact tsum_sums ρ
      · rcases Nat.lt_or_ge p 12 with gp | gp
        · rcases Nat.lt_or_ge p 10 with gp | gp
          · rcases Nat.lt_or_ge p 9 with gp | gp
            · obtain rfl : p = 8 := by omega
              exact tsum_sums ρ
            · obtain rfl : p = 9 := by omega
              exact tsum_sums ρ
          · rcases Nat.lt_or_ge p 11 with gp | gp
            · obtain rfl : p = 10 := by omega
              exact tsum_sums ρ
            · obtain rfl : p = 11 := by omega
              exact tsum_sums ρ
        · rcases Nat.lt_or_ge p 14 with gp | gp
          · rcases Nat.lt_or_ge p 13 with gp | gp
            · obtain rfl : p = 12 := by omega
              exact tsum_sums ρ
            · obtain rfl : p = 13 := by omega
              exact tsum_sums ρ
          · rcases Nat.lt_or_ge p 15 with gp | gp
            · obtain rfl : p = 14 := by omega
              exact tsum_sums ρ
            · obtain rfl : p = 15 := by omega
              exact tsum_sums ρ
    · rcases Nat.lt_or_ge p 24 with gp | gp
      · rcases Nat.lt_or_ge p 20 with gp | gp
        · rcases Nat.lt_or_ge p 18 with gp | gp
          · rcases Nat.lt_or_ge p 17 with gp | gp
            · obtain rfl : p = 16 := by omega
              exact tsum_sums ρ
            · obtain rfl : p = 17 := by omega
              exact tsum_sums ρ
          · rcases Nat.lt_or_ge p 19 with gp | gp
            · obtain rfl : p = 18 := by omega
              exact tsum_sums ρ
            · obtain rfl : p = 19 := by omega
              exact tsum_sums ρ
        · rcases Nat.lt_or_ge p 22 with gp | gp
          · rcases Nat.lt_or_ge p 21 with gp | gp
            · obtain rfl : p = 20 := by omega
              exact tsum_sums ρ
            · obtain rfl : p = 21 := by omega
              exact tsum_sums ρ
          · rcases Nat.lt_or_ge p 23 with gp | gp
            · obtain rfl : p = 22 := by omega
              exact tsum_sums ρ
            · obtain rfl : p = 23 := by omega
              exact tsum_sums ρ
      · rcases Nat.lt_or_ge p 28 with gp | gp
        · rcases Nat.lt_or_ge p 26 with gp | gp
          · rcases Nat.lt_or_ge p 25 with gp | gp
            · obtain rfl : p = 24 := by omega
              exact tsum_sums ρ
            · obtain rfl : p = 25 := by omega
              exact tsum_sums ρ
          · rcases Nat.lt_or_ge p 27 with gp | gp
            · obtain rfl : p = 26 := by omega
              exact tsum_sums ρ
            · obtain rfl : p = 27 := by omega
              exact tsum_sums ρ
        · rcases Nat.lt_or_ge p 30 with gp | gp
          · rcases Nat.lt_or_ge p 29 with gp | gp
            · obtain rfl : p = 28 := by omega
              exact tsum_sums ρ
            · obtain rfl : p = 29 := by omega
              exact tsum_sums ρ
          · rcases Nat.lt_or_ge p 31 with gp | gp
            · obtain rfl : p = 30 := by omega
              exact tsum_sums ρ
            · obtain rfl : p = 31 := by omega
              exact tsum_sums ρ
  · rcases Nat.lt_or_ge p 48 with gp | gp
    · rcases Nat.lt_or_ge p 40 with gp | gp
      · rcases Nat.lt_or_ge p 36 with gp | gp
        · rcases Nat.lt_or_ge p 34 with gp | gp
          · rcases Nat.lt_or_ge p 33 with gp | gp
            · obtain rfl : p = 32 := by omega
              exact tsum_sums ρ
            · obtain rfl : p = 33 := by omega
              exact tsum_sums ρ
          · rcases Nat.lt_or_ge p 35 with gp | gp
            · obtain rfl : p = 34 := by omega
              exact tsum_sums ρ
            · obtain rfl : p = 35 := by omega
              exact tsum_sums ρ
        · rcases Nat.lt_or_ge p 38 with gp | gp
          · rcases Nat.lt_or_ge p 37 with gp | gp
            · obtain rfl : p = 36 := by omega
              exact tsum_sums ρ
            · obtain rfl : p = 37 := by omega
              exact tsum_sums ρ
          · rcases Nat.lt_or_ge p 39 with gp | gp
            · obtain rfl : p = 38 := by omega
              exact tsum_sums ρ
            · obtain rfl : p = 39 := by omega
              exact tsum_sums ρ
      · rcases Nat.lt_or_ge p 44 with gp | gp
        · rcases Nat.lt_or_ge p 42 with gp | gp
          · rcases Nat.lt_or_ge p 41 with gp | gp
            · obtain rfl : p = 40 := by omega
              exact tsum_sums ρ
            · obtain rfl : p = 41 := by omega
              exact tsum_sums ρ
          · rcases Nat.lt_or_ge p 43 with gp | gp
            · obtain rfl : p = 42 := by omega
              exact tsum_sums ρ
            · obtain rfl : p = 43 := by omega
              exact tsum_sums ρ
        · rcases Nat.lt_or_ge p 46 with gp | gp
          · rcases Nat.lt_or_ge p 45 with gp | gp
            · obtain rfl : p = 44 := by omega
              exact tsum_sums ρ
            · obtain rfl : p = 45 := by omega
              exact tsum_sums ρ
          · rcases Nat.lt_or_ge p 47 with gp | gp
            · obtain rfl : p = 46 := by omega
              exact tsum_sums ρ
            · obtain rfl : p = 47 := by omega
              exact tsum_sums ρ
    · rcases Nat.lt_or_ge p 56 with gp | gp
      · rcases Nat.lt_or_ge p 52 with gp | gp
        · rcases Nat.lt_or_ge p 50 with gp | gp
          · rcases Nat.lt_or_ge p 49 with gp | gp
            · obtain rfl : p = 48 := by omega
              exact tsumK_ok tsumG_48_0 tsumG_48_1 tsumH_48_0 tsumH_48_1 ρ
            · obtain rfl : p = 49 := by omega
              exact tsumK_ok tsumG_49_0 tsumG_49_1 tsumH_49_0 tsumH_49_1 ρ
          · rcases Nat.lt_or_ge p 51 with gp | gp
            · obtain rfl : p = 50 := by omega
              exact tsumK_ok tsumG_50_0 tsumG_50_1 tsumH_50_0 tsumH_50_1 ρ
            · obtain rfl : p = 51 := by omega
              exact tsumK_ok tsumG_51_0 tsumG_51_1 tsumH_51_0 tsumH_51_1 ρ
        · rcases Nat.lt_or_ge p 54 with gp | gp
          · rcases Nat.lt_or_ge p 53 with gp | gp
            · obtain rfl : p = 52 := by omega
              exact tsumK_ok tsumG_52_0 tsumG_52_1 tsumH_52_0 tsumH_52_1 ρ
            · obtain rfl : p = 53 := by omega
              exact tsumK_ok tsumG_53_0 tsumG_53_1 tsumH_53_0 tsumH_53_1 ρ
          · rcases Nat.lt_or_ge p 55 with gp | gp
            · obtain rfl : p = 54 := by omega
              exact tsumK_ok tsumG_54_0 tsumG_54_1 tsumH_54_0 tsumH_54_1 ρ
            · obtain rfl : p = 55 := by omega
              exact tsumK_ok tsumG_55_0 tsumG_55_1 tsumH_55_0 tsumH_55_1 ρ
      · rcases Nat.lt_or_ge p 60 with gp | gp
        · rcases Nat.lt_or_ge p 58 with gp | gp
          · rcases Nat.lt_or_ge p 57 with gp | gp
            · obtain rfl : p = 56 := by omega
              exact tsumK_ok tsumG_56_0 tsumG_56_1 tsumH_56_0 tsumH_56_1 ρ
            · obtain rfl : p = 57 := by omega
              exact tsumK_ok tsumG_57_0 tsumG_57_1 tsumH_57_0 tsumH_57_1 ρ
          · rcases Nat.lt_or_ge p 59 with gp | gp
            · obtain rfl : p = 58 := by omega
              exact tsumK_ok tsumG_58_0 tsumG_58_1 tsumH_58_0 tsumH_58_1 ρ
            · obtain rfl : p = 59 := by omega
              exact tsumK_ok tsumG_59_0 tsumG_59_1 tsumH_59_0 tsumH_59_1 ρ
        · rcases Nat.lt_or_ge p 62 with gp | gp
          · rcases Nat.lt_or_ge p 61 with gp | gp
            · obtain rfl : p = 60 := by omega
              exact tsumK_ok tsumG_60_0 tsumG_60_1 tsumH_60_0 tsumH_60_1 ρ
            · obtain rfl : p = 61 := by omega
              exact tsumK_ok tsumG_61_0 tsumG_61_1 tsumH_61_0 tsumH_61_1 ρ
          · rcases Nat.lt_or_ge p 63 with gp | gp
            · obtain rfl : p = 62 := by omega
              exact tsumK_ok tsumG_62_0 tsumG_62_1 tsumH_62_0 tsumH_62_1 ρ
            · obtain rfl : p = 63 := by omega
              exact tsumK_ok tsumG_63_0 tsumG_63_1 tsumH_63_0 tsumH_63_1 ρ
theorem tsum_any (a : Int) (w : World) : Calls Tryz.prog 6 #[.int .i64 a] w fun e w' => e = .returned (.bool true) ∧ Go.RowKit.Below w.heap.size w w' := by
  obtain ⟨p, hp, fp⟩ := mask_and a 63 (by decide)
  have kp : (MK.and 0 63 p).OK (rhoL [a]) := fp
  exact runS_calls awake_top (ρ := rhoL [a]) (tsum_ss p (by omega) _) ivs_nil (all_cons kp all_nil) (by decide) (tsum_all p (by omega)) (.cons (.int rfl) .nil) w
end Go.Proofs.YtgccmnnenhncpaaGreatDoor
