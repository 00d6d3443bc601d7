/-
  FlowSelects: each of its cases is run; what a call of it comes to.
-/
import Derived.Test.YtebgepekllelaaaLawMore
namespace Go.Proofs.Ytebgepekllelaaa
open Go Vx

noncomputable def selectsB (p q : Nat) : Bool := allN 4 fun r => lawM [.and 0 3 p, .and 1 3 q, .and 2 3 r] [[]] 11 (vars 3)
set_option maxRecDepth 100000 in
theorem selects_0_0 : selectsB 0 0 = true := by decide +kernel
set_option maxRecDepth 100000 in
theorem selects_0_1 : selectsB 0 1 = true := by decide +kernel
set_option maxRecDepth 100000 in
theorem selects_0_2 : selectsB 0 2 = true := by decide +kernel
set_option maxRecDepth 100000 in
theorem selects_0_3 : selectsB 0 3 = true := by decide +kernel
set_option maxRecDepth 100000 in
theorem selects_1_0 : selectsB 1 0 = true := by decide +kernel
set_option maxRecDepth 100000 in
theorem selects_1_1 : selectsB 1 1 = true := by decide +kernel
set_option maxRecDepth 100000 in
theorem selects_1_2 : selectsB 1 2 = true := by decide +kernel
set_option maxRecDepth 100000 in
theorem selects_1_3 : selectsB 1 3 = true := by decide +kernel
set_option maxRecDepth 100000 in
theorem selects_2_0 : selectsB 2 0 = true := by decide +kernel
set_option maxRecDepth 100000 in
theorem selects_2_1 : selectsB 2 1 = true := by decide +kernel
set_option maxRecDepth 100000 in
theorem selects_2_2 : selectsB 2 2 = true := by decide +kernel
set_option maxRecDepth 100000 in
theorem selects_2_3 : selectsB 2 3 = true := by decide +kernel
set_option maxRecDepth 100000 in
theorem selects_3_0 : selectsB 3 0 = true := by decide +kernel
set_option maxRecDepth 100000 in
theorem selects_3_1 : selectsB 3 1 = true := by decide +kernel
set_option maxRecDepth 100000 in
theorem selects_3_2 : selectsB 3 2 = true := by decide +kernel
set_option maxRecDepth 100000 in
theorem selects_3_3 : selectsB 3 3 = true := by decide +kernel
theorem selects_all (p q : Nat) (hp : p ≤ 3) (hq : q ≤ 3) : selectsB p q = true := by
  have hp : p = 0 ∨ p = 1 ∨ p = 2 ∨ p = 3 := by omega
  rcases hp with rfl | rfl | rfl | rfl
  · have hq : q = 0 ∨ q = 1 ∨ q = 2 ∨ q = 3 := by omega
    rcases hq with rfl | rfl | rfl | rfl
    · exact selects_0_0
    · exact selects_0_1
    · exact selects_0_2
    · exact selects_0_3
  · have hq : q = 0 ∨ q = 1 ∨ q = 2 ∨ q = 3 := by omega
    rcases hq with rfl | rfl | rfl | rfl
    · exact selects_1_0
    · exact selects_1_1
    · exact selects_1_2
    · exact selects_1_3
  · have hq : q = 0 ∨ q = 1 ∨ q = 2 ∨ q = 3 := by omega
    rcases hq with rfl | rfl | rfl | rfl
    · exact selects_2_0
    · exact selects_2_1
    · exact selects_2_2
    · exact selects_2_3
  · have hq : q = 0 ∨ q = 1 ∨ q = 2 ∨ q = 3 := by omega
    rcases hq with rfl | rfl | rfl | rfl
    · exact selects_3_0
    · exact selects_3_1
    · exact selects_3_2
    · exact selects_3_3
theorem selects_any (a b c : Int) (w : World) : Calls Try.prog 11 #[.int .i64 a, .int .i64 b, .int .i64 c] w fun e w' => e = .returned (.bool true) ∧ Go.RowKit.Below w.heap.size w w' := by
  obtain ⟨p, hp, ep⟩ := mask_and a 3 (by decide)
  obtain ⟨q, hq, eq⟩ := mask_and b 3 (by decide)
  obtain ⟨r, hr, er⟩ := mask_and c 3 (by decide)
  have hp1 : (MK.and 0 3 p).OK (rho3 a b c) := ep
  have hq1 : (MK.and 1 3 q).OK (rho3 a b c) := eq
  have hr1 : (MK.and 2 3 r).OK (rho3 a b c) := er
  exact lawM_calls (all_cons hp1 (all_cons hq1 (all_cons hr1 all_nil))) ⟨[], List.mem_cons_self, fun c hc => by cases hc⟩ (by decide) (allN_ok _ 4 (selects_all p q hp hq) r (by omega)) (vars3 a b c) w
end Go.Proofs.Ytebgepekllelaaa
