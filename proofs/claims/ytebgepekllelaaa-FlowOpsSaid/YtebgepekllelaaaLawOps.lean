/-
  FlowOps: each of its cases is run; what a call of it comes to.
-/
import Derived.Test.YtebgepekllelaaaLawMore
namespace Go.Proofs.Ytebgepekllelaaa
open Go Vx

noncomputable def opsB (k : Nat) : Bool := lawM [.rem 0 123 k, .rem 1 1 0] [[]] 4 (vars 2)
noncomputable def opsB2 (k : Nat) : Bool := allN 2 fun v => lawM [.rem 0 123 k, .rem 1 2 v] [[]] 4 (vars 2)
set_option maxRecDepth 100000 in
theorem ops_0 : opsB 0 = true := by decide +kernel
set_option maxRecDepth 100000 in
theorem ops_1 : opsB2 1 = true := by decide +kernel
set_option maxRecDepth 100000 in
theorem ops_2 : opsB2 2 = true := by decide +kernel
set_option maxRecDepth 100000 in
theorem ops_3 : opsB2 3 = true := by decide +kernel
set_option maxRecDepth 100000 in
theorem ops_4 : opsB2 4 = true := by decide +kernel
set_option maxRecDepth 100000 in
theorem ops_5 : opsB2 5 = true := by decide +kernel
set_option maxRecDepth 100000 in
theorem ops_6 : opsB2 6 = true := by decide +kernel
set_option maxRecDepth 100000 in
theorem ops_7 : opsB2 7 = true := by decide +kernel
set_option maxRecDepth 100000 in
theorem ops_8 : opsB2 8 = true := by decide +kernel
set_option maxRecDepth 100000 in
theorem ops_9 : opsB2 9 = true := by decide +kernel
set_option maxRecDepth 100000 in
theorem ops_10 : opsB2 10 = true := by decide +kernel
set_option maxRecDepth 100000 in
theorem ops_11 : opsB 11 = true := by decide +kernel
set_option maxRecDepth 100000 in
theorem ops_12 : opsB2 12 = true := by decide +kernel
set_option maxRecDepth 100000 in
theorem ops_13 : opsB2 13 = true := by decide +kernel
set_option maxRecDepth 100000 in
theorem ops_14 : opsB2 14 = true := by decide +kernel
set_option maxRecDepth 100000 in
theorem ops_15 : opsB2 15 = true := by decide +kernel
set_option maxRecDepth 100000 in
theorem ops_16 : opsB2 16 = true := by decide +kernel
set_option maxRecDepth 100000 in
theorem ops_17 : opsB2 17 = true := by decide +kernel
set_option maxRecDepth 100000 in
theorem ops_18 : opsB2 18 = true := by decide +kernel
set_option maxRecDepth 100000 in
theorem ops_19 : opsB2 19 = true := by decide +kernel
set_option maxRecDepth 100000 in
theorem ops_20 : opsB2 20 = true := by decide +kernel
set_option maxRecDepth 100000 in
theorem ops_21 : opsB2 21 = true := by decide +kernel
set_option maxRecDepth 100000 in
theorem ops_22 : opsB2 22 = true := by decide +kernel
set_option maxRecDepth 100000 in
theorem ops_23 : opsB2 23 = true := by decide +kernel
set_option maxRecDepth 100000 in
theorem ops_24 : opsB2 24 = true := by decide +kernel
set_option maxRecDepth 100000 in
theorem ops_25 : opsB2 25 = true := by decide +kernel
set_option maxRecDepth 100000 in
theorem ops_26 : opsB2 26 = true := by decide +kernel
set_option maxRecDepth 100000 in
theorem ops_27 : opsB2 27 = true := by decide +kernel
set_option maxRecDepth 100000 in
theorem ops_28 : opsB2 28 = true := by decide +kernel
set_option maxRecDepth 100000 in
theorem ops_29 : opsB2 29 = true := by decide +kernel
set_option maxRecDepth 100000 in
theorem ops_30 : opsB2 30 = true := by decide +kernel
set_option maxRecDepth 100000 in
theorem ops_31 : opsB2 31 = true := by decide +kernel
set_option maxRecDepth 100000 in
theorem ops_32 : opsB2 32 = true := by decide +kernel
set_option maxRecDepth 100000 in
theorem ops_33 : opsB2 33 = true := by decide +kernel
set_option maxRecDepth 100000 in
theorem ops_34 : opsB 34 = true := by decide +kernel
set_option maxRecDepth 100000 in
theorem ops_35 : opsB 35 = true := by decide +kernel
set_option maxRecDepth 100000 in
theorem ops_36 : opsB 36 = true := by decide +kernel
set_option maxRecDepth 100000 in
theorem ops_37 : opsB2 37 = true := by decide +kernel
set_option maxRecDepth 100000 in
theorem ops_38 : opsB2 38 = true := by decide +kernel
set_option maxRecDepth 100000 in
theorem ops_39 : opsB2 39 = true := by decide +kernel
set_option maxRecDepth 100000 in
theorem ops_40 : opsB2 40 = true := by decide +kernel
set_option maxRecDepth 100000 in
theorem ops_41 : opsB2 41 = true := by decide +kernel
set_option maxRecDepth 100000 in
theorem ops_42 : opsB2 42 = true := by decide +kernel
set_option maxRecDepth 100000 in
theorem ops_43 : opsB2 43 = true := by decide +kernel
set_option maxRecDepth 100000 in
theorem ops_44 : opsB2 44 = true := by decide +kernel
set_option maxRecDepth 100000 in
theorem ops_45 : opsB2 45 = true := by decide +kernel
set_option maxRecDepth 100000 in
theorem ops_46 : opsB2 46 = true := by decide +kernel
set_option maxRecDepth 100000 in
theorem ops_47 : opsB2 47 = true := by decide +kernel
set_option maxRecDepth 100000 in
theorem ops_48 : opsB2 48 = true := by decide +kernel
set_option maxRecDepth 100000 in
theorem ops_49 : opsB2 49 = true := by decide +kernel
set_option maxRecDepth 100000 in
theorem ops_50 : opsB2 50 = true := by decide +kernel
set_option maxRecDepth 100000 in
theorem ops_51 : opsB2 51 = true := by decide +kernel
set_option maxRecDepth 100000 in
theorem ops_52 : opsB 52 = true := by decide +kernel
set_option maxRecDepth 100000 in
theorem ops_53 : opsB 53 = true := by decide +kernel
set_option maxRecDepth 100000 in
theorem ops_54 : opsB 54 = true := by decide +kernel
set_option maxRecDepth 100000 in
theorem ops_55 : opsB2 55 = true := by decide +kernel
set_option maxRecDepth 100000 in
theorem ops_56 : opsB2 56 = true := by decide +kernel
set_option maxRecDepth 100000 in
theorem ops_57 : opsB2 57 = true := by decide +kernel
set_option maxRecDepth 100000 in
theorem ops_58 : opsB2 58 = true := by decide +kernel
set_option maxRecDepth 100000 in
theorem ops_59 : opsB2 59 = true := by decide +kernel
set_option maxRecDepth 100000 in
theorem ops_60 : opsB2 60 = true := by decide +kernel
set_option maxRecDepth 100000 in
theorem ops_61 : opsB2 61 = true := by decide +kernel
set_option maxRecDepth 100000 in
theorem ops_62 : opsB2 62 = true := by decide +kernel
set_option maxRecDepth 100000 in
theorem ops_63 : opsB2 63 = true := by decide +kernel
set_option maxRecDepth 100000 in
theorem ops_64 : opsB2 64 = true := by decide +kernel
set_option maxRecDepth 100000 in
theorem ops_65 : opsB2 65 = true := by decide +kernel
set_option maxRecDepth 100000 in
theorem ops_66 : opsB2 66 = true := by decide +kernel
set_option maxRecDepth 100000 in
theorem ops_67 : opsB2 67 = true := by decide +kernel
set_option maxRecDepth 100000 in
theorem ops_68 : opsB2 68 = true := by decide +kernel
set_option maxRecDepth 100000 in
theorem ops_69 : opsB2 69 = true := by decide +kernel
set_option maxRecDepth 100000 in
theorem ops_70 : opsB 70 = true := by decide +kernel
set_option maxRecDepth 100000 in
theorem ops_71 : opsB 71 = true := by decide +kernel
set_option maxRecDepth 100000 in
theorem ops_72 : opsB 72 = true := by decide +kernel
set_option maxRecDepth 100000 in
theorem ops_73 : opsB 73 = true := by decide +kernel
set_option maxRecDepth 100000 in
theorem ops_74 : opsB 74 = true := by decide +kernel
set_option maxRecDepth 100000 in
theorem ops_75 : opsB 75 = true := by decide +kernel
set_option maxRecDepth 100000 in
theorem ops_76 : opsB 76 = true := by decide +kernel
set_option maxRecDepth 100000 in
theorem ops_77 : opsB2 77 = true := by decide +kernel
set_option maxRecDepth 100000 in
theorem ops_78 : opsB2 78 = true := by decide +kernel
set_option maxRecDepth 100000 in
theorem ops_79 : opsB2 79 = true := by decide +kernel
set_option maxRecDepth 100000 in
theorem ops_80 : opsB2 80 = true := by decide +kernel
set_option maxRecDepth 100000 in
theorem ops_81 : opsB2 81 = true := by decide +kernel
set_option maxRecDepth 100000 in
theorem ops_82 : opsB2 82 = true := by decide +kernel
set_option maxRecDepth 100000 in
theorem ops_83 : opsB2 83 = true := by decide +kernel
set_option maxRecDepth 100000 in
theorem ops_84 : opsB 84 = true := by decide +kernel
set_option maxRecDepth 100000 in
theorem ops_85 : opsB 85 = true := by decide +kernel
set_option maxRecDepth 100000 in
theorem ops_86 : opsB 86 = true := by decide +kernel
set_option maxRecDepth 100000 in
theorem ops_87 : opsB 87 = true := by decide +kernel
set_option maxRecDepth 100000 in
theorem ops_88 : opsB 88 = true := by decide +kernel
set_option maxRecDepth 100000 in
theorem ops_89 : opsB 89 = true := by decide +kernel
set_option maxRecDepth 100000 in
theorem ops_90 : opsB 90 = true := by decide +kernel
set_option maxRecDepth 100000 in
theorem ops_91 : opsB2 91 = true := by decide +kernel
set_option maxRecDepth 100000 in
theorem ops_92 : opsB2 92 = true := by decide +kernel
set_option maxRecDepth 100000 in
theorem ops_93 : opsB2 93 = true := by decide +kernel
set_option maxRecDepth 100000 in
theorem ops_94 : opsB2 94 = true := by decide +kernel
set_option maxRecDepth 100000 in
theorem ops_95 : opsB2 95 = true := by decide +kernel
set_option maxRecDepth 100000 in
theorem ops_96 : opsB2 96 = true := by decide +kernel
set_option maxRecDepth 100000 in
theorem ops_97 : opsB2 97 = true := by decide +kernel
set_option maxRecDepth 100000 in
theorem ops_98 : opsB 98 = true := by decide +kernel
set_option maxRecDepth 100000 in
theorem ops_99 : opsB 99 = true := by decide +kernel
set_option maxRecDepth 100000 in
theorem ops_100 : opsB 100 = true := by decide +kernel
set_option maxRecDepth 100000 in
theorem ops_101 : opsB 101 = true := by decide +kernel
set_option maxRecDepth 100000 in
theorem ops_102 : opsB 102 = true := by decide +kernel
set_option maxRecDepth 100000 in
theorem ops_103 : opsB 103 = true := by decide +kernel
set_option maxRecDepth 100000 in
theorem ops_104 : opsB 104 = true := by decide +kernel
set_option maxRecDepth 100000 in
theorem ops_105 : opsB 105 = true := by decide +kernel
set_option maxRecDepth 100000 in
theorem ops_106 : opsB 106 = true := by decide +kernel
set_option maxRecDepth 100000 in
theorem ops_107 : opsB 107 = true := by decide +kernel
set_option maxRecDepth 100000 in
theorem ops_108 : opsB 108 = true := by decide +kernel
set_option maxRecDepth 100000 in
theorem ops_109 : opsB 109 = true := by decide +kernel
set_option maxRecDepth 100000 in
theorem ops_110 : opsB 110 = true := by decide +kernel
set_option maxRecDepth 100000 in
theorem ops_111 : opsB 111 = true := by decide +kernel
set_option maxRecDepth 100000 in
theorem ops_112 : opsB 112 = true := by decide +kernel
set_option maxRecDepth 100000 in
theorem ops_113 : opsB 113 = true := by decide +kernel
set_option maxRecDepth 100000 in
theorem ops_114 : opsB 114 = true := by decide +kernel
set_option maxRecDepth 100000 in
theorem ops_115 : opsB 115 = true := by decide +kernel
set_option maxRecDepth 100000 in
theorem ops_116 : opsB 116 = true := by decide +kernel
set_option maxRecDepth 100000 in
theorem ops_117 : opsB 117 = true := by decide +kernel
set_option maxRecDepth 100000 in
theorem ops_118 : opsB 118 = true := by decide +kernel
set_option maxRecDepth 100000 in
theorem ops_119 : opsB 119 = true := by decide +kernel
set_option maxRecDepth 100000 in
theorem ops_120 : opsB 120 = true := by decide +kernel
set_option maxRecDepth 100000 in
theorem ops_121 : opsB 121 = true := by decide +kernel
set_option maxRecDepth 100000 in
theorem ops_122 : opsB 122 = true := by decide +kernel
theorem vars2 (a b : Int) : VRs (fun _ => none) (rho3 a b 0) (vars 2) [.int .i64 a, .int .i64 b] := .cons (.int rfl) (.cons (.int rfl) .nil)
theorem ops_any (a b : Int) (w : World) : Calls Try.prog 4 #[.int .i64 a, .int .i64 b] w fun e w' => e = .returned (.bool true) ∧ Go.RowKit.Below w.heap.size w w' := by
  obtain ⟨k, hk, ek⟩ := mask_rem a 123 (by decide)
  obtain ⟨u, hu, eu⟩ := mask_rem b 1 (by decide)
  obtain ⟨v, hv, ev⟩ := mask_rem b 2 (by decide)
  obtain rfl : u = 0 := by omega
  have hk1 : (MK.rem 0 123 k).OK (rho3 a b 0) := ek
  have hu1 : (MK.rem 1 1 0).OK (rho3 a b 0) := eu
  have hv1 : (MK.rem 1 2 v).OK (rho3 a b 0) := ev
  clear ek eu ev
  have hc : InCls (rho3 a b 0) [[]] := ⟨[], List.mem_cons_self, fun c hc => by cases hc⟩
  have one : opsB k = true → Calls Try.prog 4 #[.int .i64 a, .int .i64 b] w fun e w' => e = .returned (.bool true) ∧ Go.RowKit.Below w.heap.size w w' :=
    fun h => lawM_calls (all_cons hk1 (all_cons hu1 all_nil)) hc (by decide) h (vars2 a b) w
  have two : opsB2 k = true → Calls Try.prog 4 #[.int .i64 a, .int .i64 b] w fun e w' => e = .returned (.bool true) ∧ Go.RowKit.Below w.heap.size w w' :=
    fun h => lawM_calls (all_cons hk1 (all_cons hv1 all_nil)) hc (by decide) (allN_ok _ 2 h v hv) (vars2 a b) w
  clear hk1
  have hk2 : k = 0 ∨ k = 1 ∨ k = 2 ∨ k = 3 ∨ k = 4 ∨ k = 5 ∨ k = 6 ∨ k = 7 ∨ k = 8 ∨ k = 9 ∨ k = 10 ∨ k = 11 ∨ k = 12 ∨ k = 13 ∨ k = 14 ∨ k = 15 ∨ k = 16 ∨ k = 17 ∨ k = 18 ∨ k = 19 ∨ k = 20 ∨ k = 21 ∨ k = 22 ∨ k = 23 ∨ k = 24 ∨ k = 25 ∨ k = 26 ∨ k = 27 ∨ k = 28 ∨ k = 29 ∨ k = 30 ∨ k = 31 ∨ k = 32 ∨ k = 33 ∨ k = 34 ∨ k = 35 ∨ k = 36 ∨ k = 37 ∨ k = 38 ∨ k = 39 ∨ k = 40 ∨ k = 41 ∨ k = 42 ∨ k = 43 ∨ k = 44 ∨ k = 45 ∨ k = 46 ∨ k = 47 ∨ k = 48 ∨ k = 49 ∨ k = 50 ∨ k = 51 ∨ k = 52 ∨ k = 53 ∨ k = 54 ∨ k = 55 ∨ k = 56 ∨ k = 57 ∨ k = 58 ∨ k = 59 ∨ k = 60 ∨ k = 61 ∨ k = 62 ∨ k = 63 ∨ k = 64 ∨ k = 65 ∨ k = 66 ∨ k = 67 ∨ k = 68 ∨ k = 69 ∨ k = 70 ∨ k = 71 ∨ k = 72 ∨ k = 73 ∨ k = 74 ∨ k = 75 ∨ k = 76 ∨ k = 77 ∨ k = 78 ∨ k = 79 ∨ k = 80 ∨ k = 81 ∨ k = 82 ∨ k = 83 ∨ k = 84 ∨ k = 85 ∨ k = 86 ∨ k = 87 ∨ k = 88 ∨ k = 89 ∨ k = 90 ∨ k = 91 ∨ k = 92 ∨ k = 93 ∨ k = 94 ∨ k = 95 ∨ k = 96 ∨ k = 97 ∨ k = 98 ∨ k = 99 ∨ k = 100 ∨ k = 101 ∨ k = 102 ∨ k = 103 ∨ k = 104 ∨ k = 105 ∨ k = 106 ∨ k = 107 ∨ k = 108 ∨ k = 109 ∨ k = 110 ∨ k = 111 ∨ k = 112 ∨ k = 113 ∨ k = 114 ∨ k = 115 ∨ k = 116 ∨ k = 117 ∨ k = 118 ∨ k = 119 ∨ k = 120 ∨ k = 121 ∨ k = 122 := by omega
  rcases hk2 with rfl | rfl | rfl | rfl | rfl | rfl | rfl | rfl | rfl | rfl | rfl | rfl | rfl | rfl | rfl | rfl | rfl | rfl | rfl | rfl | rfl | rfl | rfl | rfl | rfl | rfl | rfl | rfl | rfl | rfl | rfl | rfl | rfl | rfl | rfl | rfl | rfl | rfl | rfl | rfl | rfl | rfl | rfl | rfl | rfl | rfl | rfl | rfl | rfl | rfl | rfl | rfl | rfl | rfl | rfl | rfl | rfl | rfl | rfl | rfl | rfl | rfl | rfl | rfl | rfl | rfl | rfl | rfl | rfl | rfl | rfl | rfl | rfl | rfl | rfl | rfl | rfl | rfl | rfl | rfl | rfl | rfl | rfl | rfl | rfl | rfl | rfl | rfl | rfl | rfl | rfl | rfl | rfl | rfl | rfl | rfl | rfl | rfl | rfl | rfl | rfl | rfl | rfl | rfl | rfl | rfl | rfl | rfl | rfl | rfl | rfl | rfl | rfl | rfl | rfl | rfl | rfl | rfl | rfl | rfl | rfl | rfl | rfl
  · exact one ops_0
  · exact two ops_1
  · exact two ops_2
  · exact two ops_3
  · exact two ops_4
  · exact two ops_5
  · exact two ops_6
  · exact two ops_7
  · exact two ops_8
  · exact two ops_9
  · exact two ops_10
  · exact one ops_11
  · exact two ops_12
  · exact two ops_13
  · exact two ops_14
  · exact two ops_15
  · exact two ops_16
  · exact two ops_17
  · exact two ops_18
  · exact two ops_19
  · exact two ops_20
  · exact two ops_21
  · exact two ops_22
  · exact two ops_23
  · exact two ops_24
  · exact two ops_25
  · exact two ops_26
  · exact two ops_27
  · exact two ops_28
  · exact two ops_29
  · exact two ops_30
  · exact two ops_31
  · exact two ops_32
  · exact two ops_33
  · exact one ops_34
  · exact one ops_35
  · exact one ops_36
  · exact two ops_37
  · exact two ops_38
  · exact two ops_39
  · exact two ops_40
  · exact two ops_41
  · exact two ops_42
  · exact two ops_43
  · exact two ops_44
  · exact two ops_45
  · exact two ops_46
  · exact two ops_47
  · exact two ops_48
  · exact two ops_49
  · exact two ops_50
  · exact two ops_51
  · exact one ops_52
  · exact one ops_53
  · exact one ops_54
  · exact two ops_55
  · exact two ops_56
  · exact two ops_57
  · exact two ops_58
  · exact two ops_59
  · exact two ops_60
  · exact two ops_61
  · exact two ops_62
  · exact two ops_63
  · exact two ops_64
  · exact two ops_65
  · exact two ops_66
  · exact two ops_67
  · exact two ops_68
  · exact two ops_69
  · exact one ops_70
  · exact one ops_71
  · exact one ops_72
  · exact one ops_73
  · exact one ops_74
  · exact one ops_75
  · exact one ops_76
  · exact two ops_77
  · exact two ops_78
  · exact two ops_79
  · exact two ops_80
  · exact two ops_81
  · exact two ops_82
  · exact two ops_83
  · exact one ops_84
  · exact one ops_85
  · exact one ops_86
  · exact one ops_87
  · exact one ops_88
  · exact one ops_89
  · exact one ops_90
  · exact two ops_91
  · exact two ops_92
  · exact two ops_93
  · exact two ops_94
  · exact two ops_95
  · exact two ops_96
  · exact two ops_97
  · exact one ops_98
  · exact one ops_99
  · exact one ops_100
  · exact one ops_101
  · exact one ops_102
  · exact one ops_103
  · exact one ops_104
  · exact one ops_105
  · exact one ops_106
  · exact one ops_107
  · exact one ops_108
  · exact one ops_109
  · exact one ops_110
  · exact one ops_111
  · exact one ops_112
  · exact one ops_113
  · exact one ops_114
  · exact one ops_115
  · exact one ops_116
  · exact one ops_117
  · exact one ops_118
  · exact one ops_119
  · exact one ops_120
  · exact one ops_121
  · exact one ops_122
end Go.Proofs.Ytebgepekllelaaa
