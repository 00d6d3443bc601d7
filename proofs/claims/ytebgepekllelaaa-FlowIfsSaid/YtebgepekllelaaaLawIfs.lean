/-
  FlowIfs: each of its cases is run; what a call of it comes to.
-/
import Derived.Test.YtebgepekllelaaaLawBase
namespace Go.Proofs.Ytebgepekllelaaa
open Go Vx

noncomputable def ifsB (p q : Nat) : Bool := allN 4 fun r => lawB Try.prog (lawD 13 [.and 0 3 p, .and 1 3 q, .and 2 3 r] [[]]) 40000 6 (vars 3)
set_option maxRecDepth 100000 in
theorem ifs_0_0 : ifsB 0 0 = true := by decide +kernel
set_option maxRecDepth 100000 in
theorem ifs_0_1 : ifsB 0 1 = true := by decide +kernel
set_option maxRecDepth 100000 in
theorem ifs_0_2 : ifsB 0 2 = true := by decide +kernel
set_option maxRecDepth 100000 in
theorem ifs_0_3 : ifsB 0 3 = true := by decide +kernel
set_option maxRecDepth 100000 in
theorem ifs_1_0 : ifsB 1 0 = true := by decide +kernel
set_option maxRecDepth 100000 in
theorem ifs_1_1 : ifsB 1 1 = true := by decide +kernel
set_option maxRecDepth 100000 in
theorem ifs_1_2 : ifsB 1 2 = true := by decide +kernel
set_option maxRecDepth 100000 in
theorem ifs_1_3 : ifsB 1 3 = true := by decide +kernel
set_option maxRecDepth 100000 in
theorem ifs_2_0 : ifsB 2 0 = true := by decide +kernel
set_option maxRecDepth 100000 in
theorem ifs_2_1 : ifsB 2 1 = true := by decide +kernel
set_option maxRecDepth 100000 in
theorem ifs_2_2 : ifsB 2 2 = true := by decide +kernel
set_option maxRecDepth 100000 in
theorem ifs_2_3 : ifsB 2 3 = true := by decide +kernel
set_option maxRecDepth 100000 in
theorem ifs_3_0 : ifsB 3 0 = true := by decide +kernel
set_option maxRecDepth 100000 in
theorem ifs_3_1 : ifsB 3 1 = true := by decide +kernel
set_option maxRecDepth 100000 in
theorem ifs_3_2 : ifsB 3 2 = true := by decide +kernel
set_option maxRecDepth 100000 in
theorem ifs_3_3 : ifsB 3 3 = true := by decide +kernel
theorem ifs_all (p q : Nat) (hp : p ≤ 3) (hq : q ≤ 3) : ifsB p q = true := by
  have hp : p = 0 ∨ p = 1 ∨ p = 2 ∨ p = 3 := by omega
  rcases hp with rfl | rfl | rfl | rfl
  · have hq : q = 0 ∨ q = 1 ∨ q = 2 ∨ q = 3 := by omega
    rcases hq with rfl | rfl | rfl | rfl
    · exact ifs_0_0
    · exact ifs_0_1
    · exact ifs_0_2
    · exact ifs_0_3
  · have hq : q = 0 ∨ q = 1 ∨ q = 2 ∨ q = 3 := by omega
    rcases hq with rfl | rfl | rfl | rfl
    · exact ifs_1_0
    · exact ifs_1_1
    · exact ifs_1_2
    · exact ifs_1_3
  · have hq : q = 0 ∨ q = 1 ∨ q = 2 ∨ q = 3 := by omega
    rcases hq with rfl | rfl | rfl | rfl
    · exact ifs_2_0
    · exact ifs_2_1
    · exact ifs_2_2
    · exact ifs_2_3
  · have hq : q = 0 ∨ q = 1 ∨ q = 2 ∨ q = 3 := by omega
    rcases hq with rfl | rfl | rfl | rfl
    · exact ifs_3_0
    · exact ifs_3_1
    · exact ifs_3_2
    · exact ifs_3_3
theorem ifs_any (a b c : Int) (w : World) : Calls Try.prog 6 #[.int .i64 a, .int .i64 b, .int .i64 c] w fun e w' => e = .returned (.bool true) ∧ Go.RowKit.Below w.heap.size w w' :=
  law3 (by decide) (m0 := 3) (m1 := 3) (m2 := 3) (by decide) (by decide) (by decide) (fun p q r hp hq hr => allN_ok _ 4 (ifs_all p q hp hq) r (by omega)) a b c w
end Go.Proofs.Ytebgepekllelaaa
