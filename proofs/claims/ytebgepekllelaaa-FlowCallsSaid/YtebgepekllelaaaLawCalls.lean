/-
  FlowCalls: each of its cases is run, the fourth number by its class; what a call of it comes to.
-/
import Derived.Test.YtebgepekllelaaaLawMore
namespace Go.Proofs.Ytebgepekllelaaa
open Go Vx

noncomputable def callsB (p q : Nat) : Bool := allN 4 fun r => lawM [.and 0 3 p, .and 1 3 q, .and 2 3 r] (span 3 7 0 8) 9 (vars 4)
set_option maxRecDepth 100000 in
theorem calls_0_0 : callsB 0 0 = true := by decide +kernel
set_option maxRecDepth 100000 in
theorem calls_0_1 : callsB 0 1 = true := by decide +kernel
set_option maxRecDepth 100000 in
theorem calls_0_2 : callsB 0 2 = true := by decide +kernel
set_option maxRecDepth 100000 in
theorem calls_0_3 : callsB 0 3 = true := by decide +kernel
set_option maxRecDepth 100000 in
theorem calls_1_0 : callsB 1 0 = true := by decide +kernel
set_option maxRecDepth 100000 in
theorem calls_1_1 : callsB 1 1 = true := by decide +kernel
set_option maxRecDepth 100000 in
theorem calls_1_2 : callsB 1 2 = true := by decide +kernel
set_option maxRecDepth 100000 in
theorem calls_1_3 : callsB 1 3 = true := by decide +kernel
set_option maxRecDepth 100000 in
theorem calls_2_0 : callsB 2 0 = true := by decide +kernel
set_option maxRecDepth 100000 in
theorem calls_2_1 : callsB 2 1 = true := by decide +kernel
set_option maxRecDepth 100000 in
theorem calls_2_2 : callsB 2 2 = true := by decide +kernel
set_option maxRecDepth 100000 in
theorem calls_2_3 : callsB 2 3 = true := by decide +kernel
set_option maxRecDepth 100000 in
theorem calls_3_0 : callsB 3 0 = true := by decide +kernel
set_option maxRecDepth 100000 in
theorem calls_3_1 : callsB 3 1 = true := by decide +kernel
set_option maxRecDepth 100000 in
theorem calls_3_2 : callsB 3 2 = true := by decide +kernel
set_option maxRecDepth 100000 in
theorem calls_3_3 : callsB 3 3 = true := by decide +kernel
theorem calls_all (p q : Nat) (hp : p ≤ 3) (hq : q ≤ 3) : callsB p q = true := by
  have hp : p = 0 ∨ p = 1 ∨ p = 2 ∨ p = 3 := by omega
  rcases hp with rfl | rfl | rfl | rfl
  · have hq : q = 0 ∨ q = 1 ∨ q = 2 ∨ q = 3 := by omega
    rcases hq with rfl | rfl | rfl | rfl
    · exact calls_0_0
    · exact calls_0_1
    · exact calls_0_2
    · exact calls_0_3
  · have hq : q = 0 ∨ q = 1 ∨ q = 2 ∨ q = 3 := by omega
    rcases hq with rfl | rfl | rfl | rfl
    · exact calls_1_0
    · exact calls_1_1
    · exact calls_1_2
    · exact calls_1_3
  · have hq : q = 0 ∨ q = 1 ∨ q = 2 ∨ q = 3 := by omega
    rcases hq with rfl | rfl | rfl | rfl
    · exact calls_2_0
    · exact calls_2_1
    · exact calls_2_2
    · exact calls_2_3
  · have hq : q = 0 ∨ q = 1 ∨ q = 2 ∨ q = 3 := by omega
    rcases hq with rfl | rfl | rfl | rfl
    · exact calls_3_0
    · exact calls_3_1
    · exact calls_3_2
    · exact calls_3_3
theorem calls_any (a b c d : Int) (w : World) : Calls Try.prog 9 #[.int .i64 a, .int .i64 b, .int .i64 c, .int .i64 d] w fun e w' => e = .returned (.bool true) ∧ Go.RowKit.Below w.heap.size w w' := by
  obtain ⟨p, hp, ep⟩ := mask_and a 3 (by decide)
  obtain ⟨q, hq, eq⟩ := mask_and b 3 (by decide)
  obtain ⟨r, hr, er⟩ := mask_and c 3 (by decide)
  obtain ⟨v, hv, ev⟩ := mask_and d 7 (by decide)
  have hp1 : (MK.and 0 3 p).OK (rho4 a b c d) := ep
  have hq1 : (MK.and 1 3 q).OK (rho4 a b c d) := eq
  have hr1 : (MK.and 2 3 r).OK (rho4 a b c d) := er
  have hv1 : (MK.and 3 7 v).OK (rho4 a b c d) := ev
  exact lawM_calls (all_cons hp1 (all_cons hq1 (all_cons hr1 all_nil))) (span_in 8 0 v (by omega) (by omega) hv1) (by decide) (allN_ok _ 4 (calls_all p q hp hq) r (by omega)) (vars4 a b c d) w
end Go.Proofs.Ytebgepekllelaaa
