/-
  WalkLoops: what a call of it comes to.
-/
import Derived.Test.YtmgejgbomglegaaGreatDoorLawWalkLoopsC0
import Derived.Test.YtmgejgbomglegaaGreatDoorLawWalkLoopsC1
import Derived.Test.YtmgejgbomglegaaGreatDoorLawWalkLoopsC2
import Derived.Test.YtmgejgbomglegaaGreatDoorLawWalkLoopsC3
import Derived.Test.YtmgejgbomglegaaGreatDoorLawWalkLoopsC4
import Derived.Test.YtmgejgbomglegaaGreatDoorLawWalkLoopsC5
import Derived.Test.YtmgejgbomglegaaGreatDoorLawWalkLoopsC6
import Derived.Test.YtmgejgbomglegaaGreatDoorLawWalkLoopsC7
namespace Go.Proofs.YtmgejgbomglegaaGreatDoor
open Go Vx

theorem wloops_all (p : Nat) (hp : p < 128) : walkM [.and 0 127 p] 4 [.int .i64 (.var 0)] = true := by
  rcases Nat.lt_or_ge p 64 with gp | gp
  · rcases Nat.lt_or_ge p 32 with gp | gp
    · rcases Nat.lt_or_ge p 16 with gp | gp
      · rcases Nat.lt_or_ge p 8 with gp | gp
        · rcases Nat.lt_or_ge p 4 with gp | gp
          · rcases Nat.lt_or_ge p 2 with gp | gp
            · rcases Nat.lt_or_ge p 1 with gp | gp
              · obtain rfl : p = 0 := by omega
                exact wloops_0
              · obtain rfl : p = 1 := by omega
                exact wloops_1
            · rcases Nat.lt_or_ge p 3 with gp | gp
              · obtain rfl : p = 2 := by omega
                exact wloops_2
              · obtain rfl : p = 3 := by omega
                exact wloops_3
          · rcases Nat.lt_or_ge p 6 with gp | gp
            · rcases Nat.lt_or_ge p 5 with gp | gp
              · obtain rfl : p = 4 := by omega
                exact wloops_4
              · obtain rfl : p = 5 := by omega
                exact wloops_5
            · rcases Nat.lt_or_ge p 7 with gp | gp
              · obtain rfl : p = 6 := by omega
                exact wloops_6
              · obtain rfl : p = 7 := by omega
                exact wloops_7
        · rcases Nat.lt_or_ge p 12 with gp | gp
          · rcases Nat.lt_or_ge p 10 with gp | gp
            · rcases Nat.lt_or_ge p 9 with gp | gp
              · obtain rfl : p = 8 := by omega
                exact wloops_8
              · obtain rfl : p = 9 := by omega
                exact wloops_9
            · rcases Nat.lt_or_ge p 11 with gp | gp
              · obtain rfl : p = 10 := by omega
                exact wloops_10
              · obtain rfl : p = 11 := by omega
                exact wloops_11
          · rcases Nat.lt_or_ge p 14 with gp | gp
            · rcases Nat.lt_or_ge p 13 with gp | gp
              · obtain rfl : p = 12 := by omega
                exact wloops_12
              · obtain rfl : p = 13 := by omega
                exact wloops_13
            · rcases Nat.lt_or_ge p 15 with gp | gp
              · obtain rfl : p = 14 := by omega
                exact wloops_14
              · obtain rfl : p = 15 := by omega
                exact wloops_15
      · rcases Nat.lt_or_ge p 24 with gp | gp
        · rcases Nat.lt_or_ge p 20 with gp | gp
          · rcases Nat.lt_or_ge p 18 with gp | gp
            · rcases Nat.lt_or_ge p 17 with gp | gp
              · obtain rfl : p = 16 := by omega
                exact wloops_16
              · obtain rfl : p = 17 := by omega
                exact wloops_17
            · rcases Nat.lt_or_ge p 19 with gp | gp
              · obtain rfl : p = 18 := by omega
                exact wloops_18
              · obtain rfl : p = 19 := by omega
                exact wloops_19
          · rcases Nat.lt_or_ge p 22 with gp | gp
            · rcases Nat.lt_or_ge p 21 with gp | gp
              · obtain rfl : p = 20 := by omega
                exact wloops_20
              · obtain rfl : p = 21 := by omega
                exact wloops_21
            · rcases Nat.lt_or_ge p 23 with gp | gp
              · obtain rfl : p = 22 := by omega
                exact wloops_22
              · obtain rfl : p = 23 := by omega
                exact wloops_23
        · rcases Nat.lt_or_ge p 28 with gp | gp
          · rcases Nat.lt_or_ge p 26 with gp | gp
            · rcases Nat.lt_or_ge p 25 with gp | gp
              · obtain rfl : p = 24 := by omega
                exact wloops_24
              · obtain rfl : p = 25 := by omega
                exact wloops_25
            · rcases Nat.lt_or_ge p 27 with gp | gp
              · obtain rfl : p = 26 := by omega
                exact wloops_26
              · obtain rfl : p = 27 := by omega
                exact wloops_27
          · rcases Nat.lt_or_ge p 30 with gp | gp
            · rcases Nat.lt_or_ge p 29 with gp | gp
              · obtain rfl : p = 28 := by omega
                exact wloops_28
              · obtain rfl : p = 29 := by omega
                exact wloops_29
            · rcases Nat.lt_or_ge p 31 with gp | gp
              · obtain rfl : p = 30 := by omega
                exact wloops_30
              · obtain rfl : p = 31 := by omega
                exact wloops_31
    · rcases Nat.lt_or_ge p 48 with gp | gp
      · rcases Nat.lt_or_ge p 40 with gp | gp
        · rcases Nat.lt_or_ge p 36 with gp | gp
          · rcases Nat.lt_or_ge p 34 with gp | gp
            · rcases Nat.lt_or_ge p 33 with gp | gp
              · obtain rfl : p = 32 := by omega
                exact wloops_32
              · obtain rfl : p = 33 := by omega
                exact wloops_33
            · rcases Nat.lt_or_ge p 35 with gp | gp
              · obtain rfl : p = 34 := by omega
                exact wloops_34
              · obtain rfl : p = 35 := by omega
                exact wloops_35
          · rcases Nat.lt_or_ge p 38 with gp | gp
            · rcases Nat.lt_or_ge p 37 with gp | gp
              · obtain rfl : p = 36 := by omega
                exact wloops_36
              · obtain rfl : p = 37 := by omega
                exact wloops_37
            · rcases Nat.lt_or_ge p 39 with gp | gp
              · obtain rfl : p = 38 := by omega
                exact wloops_38
              · obtain rfl : p = 39 := by omega
                exact wloops_39
        · rcases Nat.lt_or_ge p 44 with gp | gp
          · rcases Nat.lt_or_ge p 42 with gp | gp
            · rcases Nat.lt_or_ge p 41 with gp | gp
              · obtain rfl : p = 40 := by omega
                exact wloops_40
              · obtain rfl : p = 41 := by omega
                exact wloops_41
            · rcases Nat.lt_or_ge p 43 with gp | gp
              · obtain rfl : p = 42 := by omega
                exact wloops_42
              · obtain rfl : p = 43 := by omega
                exact wloops_43
          · rcases Nat.lt_or_ge p 46 with gp | gp
            · rcases Nat.lt_or_ge p 45 with gp | gp
              · obtain rfl : p = 44 := by omega
                exact wloops_44
              · obtain rfl : p = 45 := by omega
                exact wloops_45
            · rcases Nat.lt_or_ge p 47 with gp | gp
              · obtain rfl : p = 46 := by omega
                exact wloops_46
              · obtain rfl : p = 47 := by omega
                exact wloops_47
      · rcases Nat.lt_or_ge p 56 with gp | gp
        · rcases Nat.lt_or_ge p 52 with gp | gp
          · rcases Nat.lt_or_ge p 50 with gp | gp
            · rcases Nat.lt_or_ge p 49 with gp | gp
              · obtain rfl : p = 48 := by omega
                exact wloops_48
              · obtain rfl : p = 49 := by omega
                exact wloops_49
            · rcases Nat.lt_or_ge p 51 with gp | gp
              · obtain rfl : p = 50 := by omega
                exact wloops_50
              · obtain rfl : p = 51 := by omega
                exact wloops_51
          · rcases Nat.lt_or_ge p 54 with gp | gp
            · rcases Nat.lt_or_ge p 53 with gp | gp
              · obtain rfl : p = 52 := by omega
                exact wloops_52
              · obtain rfl : p = 53 := by omega
                exact wloops_53
            · rcases Nat.lt_or_ge p 55 with gp | gp
              · obtain rfl : p = 54 := by omega
                exact wloops_54
              · obtain rfl : p = 55 := by omega
                exact wloops_55
        · rcases Nat.lt_or_ge p 60 with gp | gp
          · rcases Nat.lt_or_ge p 58 with gp | gp
            · rcases Nat.lt_or_ge p 57 with gp | gp
              · obtain rfl : p = 56 := by omega
                exact wloops_56
              · obtain rfl : p = 57 := by omega
                exact wloops_57
            · rcases Nat.lt_or_ge p 59 with gp | gp
              · obtain rfl : p = 58 := by omega
                exact wloops_58
              · obtain rfl : p = 59 := by omega
                exact wloops_59
          · rcases Nat.lt_or_ge p 62 with gp | gp
            · rcases Nat.lt_or_ge p 61 with gp | gp
              · obtain rfl : p = 60 := by omega
                exact wloops_60
              · obtain rfl : p = 61 := by omega
                exact wloops_61
            · rcases Nat.lt_or_ge p 63 with gp | gp
              · obtain rfl : p = 62 := by omega
                exact wloops_62
              · obtain rfl : p = 63 := by omega
                exact wloops_63
  · rcases Nat.lt_or_ge p 96 with gp | gp
    · rcases Nat.lt_or_ge p 80 with gp | gp
      · rcases Nat.lt_or_ge p 72 with gp | gp
        · rcases Nat.lt_or_ge p 68 with gp | gp
          · rcases Nat.lt_or_ge p 66 with gp | gp
            · rcases Nat.lt_or_ge p 65 with gp | gp
              · obtain rfl : p = 64 := by omega
                exact wloops_64
              · obtain rfl : p = 65 := by omega
                exact wloops_65
            · rcases Nat.lt_or_ge p 67 with gp | gp
              · obtain rfl : p = 66 := by omega
                exact wloops_66
              · obtain rfl : p = 67 := by omega
                exact wloops_67
          · rcases Nat.lt_or_ge p 70 with gp | gp
            · rcases Nat.lt_or_ge p 69 with gp | gp
              · obtain rfl : p = 68 := by omega
                exact wloops_68
              · obtain rfl : p = 69 := by omega
                exact wloops_69
            · rcases Nat.lt_or_ge p 71 with gp | gp
              · obtain rfl : p = 70 := by omega
                exact wloops_70
              · obtain rfl : p = 71 := by omega
                exact wloops_71
        · rcases Nat.lt_or_ge p 76 with gp | gp
          · rcases Nat.lt_or_ge p 74 with gp | gp
            · rcases Nat.lt_or_ge p 73 with gp | gp
              · obtain rfl : p = 72 := by omega
                exact wloops_72
              · obtain rfl : p = 73 := by omega
                exact wloops_73
            · rcases Nat.lt_or_ge p 75 with gp | gp
              · obtain rfl : p = 74 := by omega
                exact wloops_74
              · obtain rfl : p = 75 := by omega
                exact wloops_75
          · rcases Nat.lt_or_ge p 78 with gp | gp
            · rcases Nat.lt_or_ge p 77 with gp | gp
              · obtain rfl : p = 76 := by omega
                exact wloops_76
              · obtain rfl : p = 77 := by omega
                exact wloops_77
            · rcases Nat.lt_or_ge p 79 with gp | gp
              · obtain rfl : p = 78 := by omega
                exact wloops_78
              · obtain rfl : p = 79 := by omega
                exact wloops_79
      · rcases Nat.lt_or_ge p 88 with gp | gp
        · rcases Nat.lt_or_ge p 84 with gp | gp
          · rcases Nat.lt_or_ge p 82 with gp | gp
            · rcases Nat.lt_or_ge p 81 with gp | gp
              · obtain rfl : p = 80 := by omega
                exact wloops_80
              · obtain rfl : p = 81 := by omega
                exact wloops_81
            · rcases Nat.lt_or_ge p 83 with gp | gp
              · obtain rfl : p = 82 := by omega
                exact wloops_82
              · obtain rfl : p = 83 := by omega
                exact wloops_83
          · rcases Nat.lt_or_ge p 86 with gp | gp
            · rcases Nat.lt_or_ge p 85 with gp | gp
              · obtain rfl : p = 84 := by omega
                exact wloops_84
              · obtain rfl : p = 85 := by omega
                exact wloops_85
            · rcases Nat.lt_or_ge p 87 with gp | gp
              · obtain rfl : p = 86 := by omega
                exact wloops_86
              · obtain rfl : p = 87 := by omega
                exact wloops_87
        · rcases Nat.lt_or_ge p 92 with gp | gp
          · rcases Nat.lt_or_ge p 90 with gp | gp
            · rcases Nat.lt_or_ge p 89 with gp | gp
              · obtain rfl : p = 88 := by omega
                exact wloops_88
              · obtain rfl : p = 89 := by omega
                exact wloops_89
            · rcases Nat.lt_or_ge p 91 with gp | gp
              · obtain rfl : p = 90 := by omega
                exact wloops_90
              · obtain rfl : p = 91 := by omega
                exact wloops_91
          · rcases Nat.lt_or_ge p 94 with gp | gp
            · rcases Nat.lt_or_ge p 93 with gp | gp
              · obtain rfl : p = 92 := by omega
                exact wloops_92
              · obtain rfl : p = 93 := by omega
                exact wloops_93
            · rcases Nat.lt_or_ge p 95 with gp | gp
              · obtain rfl : p = 94 := by omega
                exact wloops_94
              · obtain rfl : p = 95 := by omega
                exact wloops_95
    · rcases Nat.lt_or_ge p 112 with gp | gp
      · rcases Nat.lt_or_ge p 104 with gp | gp
        · rcases Nat.lt_or_ge p 100 with gp | gp
          · rcases Nat.lt_or_ge p 98 with gp | gp
            · rcases Nat.lt_or_ge p 97 with gp | gp
              · obtain rfl : p = 96 := by omega
                exact wloops_96
              · obtain rfl : p = 97 := by omega
                exact wloops_97
            · rcases Nat.lt_or_ge p 99 with gp | gp
              · obtain rfl : p = 98 := by omega
                exact wloops_98
              · obtain rfl : p = 99 := by omega
                exact wloops_99
          · rcases Nat.lt_or_ge p 102 with gp | gp
            · rcases Nat.lt_or_ge p 101 with gp | gp
              · obtain rfl : p = 100 := by omega
                exact wloops_100
              · obtain rfl : p = 101 := by omega
                exact wloops_101
            · rcases Nat.lt_or_ge p 103 with gp | gp
              · obtain rfl : p = 102 := by omega
                exact wloops_102
              · obtain rfl : p = 103 := by omega
                exact wloops_103
        · rcases Nat.lt_or_ge p 108 with gp | gp
          · rcases Nat.lt_or_ge p 106 with gp | gp
            · rcases Nat.lt_or_ge p 105 with gp | gp
              · obtain rfl : p = 104 := by omega
                exact wloops_104
              · obtain rfl : p = 105 := by omega
                exact wloops_105
            · rcases Nat.lt_or_ge p 107 with gp | gp
              · obtain rfl : p = 106 := by omega
                exact wloops_106
              · obtain rfl : p = 107 := by omega
                exact wloops_107
          · rcases Nat.lt_or_ge p 110 with gp | gp
            · rcases Nat.lt_or_ge p 109 with gp | gp
              · obtain rfl : p = 108 := by omega
                exact wloops_108
              · obtain rfl : p = 109 := by omega
                exact wloops_109
            · rcases Nat.lt_or_ge p 111 with gp | gp
              · obtain rfl : p = 110 := by omega
                exact wloops_110
              · obtain rfl : p = 111 := by omega
                exact wloops_111
      · rcases Nat.lt_or_ge p 120 with gp | gp
        · rcases Nat.lt_or_ge p 116 with gp | gp
          · rcases Nat.lt_or_ge p 114 with gp | gp
            · rcases Nat.lt_or_ge p 113 with gp | gp
              · obtain rfl : p = 112 := by omega
                exact wloops_112
              · obtain rfl : p = 113 := by omega
                exact wloops_113
            · rcases Nat.lt_or_ge p 115 with gp | gp
              · obtain rfl : p = 114 := by omega
                exact wloops_114
              · obtain rfl : p = 115 := by omega
                exact wloops_115
          · rcases Nat.lt_or_ge p 118 with gp | gp
            · rcases Nat.lt_or_ge p 117 with gp | gp
              · obtain rfl : p = 116 := by omega
                exact wloops_116
              · obtain rfl : p = 117 := by omega
                exact wloops_117
            · rcases Nat.lt_or_ge p 119 with gp | gp
              · obtain rfl : p = 118 := by omega
                exact wloops_118
              · obtain rfl : p = 119 := by omega
                exact wloops_119
        · rcases Nat.lt_or_ge p 124 with gp | gp
          · rcases Nat.lt_or_ge p 122 with gp | gp
            · rcases Nat.lt_or_ge p 121 with gp | gp
              · obtain rfl : p = 120 := by omega
                exact wloops_120
              · obtain rfl : p = 121 := by omega
                exact wloops_121
            · rcases Nat.lt_or_ge p 123 with gp | gp
              · obtain rfl : p = 122 := by omega
                exact wloops_122
              · obtain rfl : p = 123 := by omega
                exact wloops_123
          · rcases Nat.lt_or_ge p 126 with gp | gp
            · rcases Nat.lt_or_ge p 125 with gp | gp
              · obtain rfl : p = 124 := by omega
                exact wloops_124
              · obtain rfl : p = 125 := by omega
                exact wloops_125
            · rcases Nat.lt_or_ge p 127 with gp | gp
              · obtain rfl : p = 126 := by omega
                exact wloops_126
              · obtain rfl : p = 127 := by omega
                exact wloops_127
theorem wloops_any (a : Int) (w : World) : Calls Tryz.prog 4 #[.int .i64 a] w fun e w' => e = .returned (.bool true) ∧ Go.RowKit.Below w.heap.size w w' := by
  obtain ⟨p, hp, fp⟩ := mask_and a 127 (by decide)
  have kp : (MK.and 0 127 p).OK (rho3 a 0 0) := fp
  exact walkM_calls (ρ := rho3 a 0 0) (all_cons kp all_nil) (by decide) (wloops_all p (by omega)) (.cons (.int rfl) .nil) w
end Go.Proofs.YtmgejgbomglegaaGreatDoor
