/-
  FlowBlocks: each of its cases is run; what a call of it comes to.
-/
import Derived.Test.YtebgepekllelaaaLawBase
namespace Go.Proofs.Ytebgepekllelaaa
open Go Vx

noncomputable def blocksB (p q : Nat) : Bool := allN 4 fun r => lawB Try.prog (lawD 13 [.and 0 1 p, .and 1 3 q, .and 2 3 r] [[]]) 40000 5 (vars 3)
set_option maxRecDepth 100000 in
theorem blocks_0_0 : blocksB 0 0 = true := by decide +kernel
set_option maxRecDepth 100000 in
theorem blocks_0_1 : blocksB 0 1 = true := by decide +kernel
set_option maxRecDepth 100000 in
theorem blocks_0_2 : blocksB 0 2 = true := by decide +kernel
set_option maxRecDepth 100000 in
theorem blocks_0_3 : blocksB 0 3 = true := by decide +kernel
set_option maxRecDepth 100000 in
theorem blocks_1_0 : blocksB 1 0 = true := by decide +kernel
set_option maxRecDepth 100000 in
theorem blocks_1_1 : blocksB 1 1 = true := by decide +kernel
set_option maxRecDepth 100000 in
theorem blocks_1_2 : blocksB 1 2 = true := by decide +kernel
set_option maxRecDepth 100000 in
theorem blocks_1_3 : blocksB 1 3 = true := by decide +kernel
theorem blocks_all (p q : Nat) (hp : p ≤ 1) (hq : q ≤ 3) : blocksB p q = true := by
  have hp : p = 0 ∨ p = 1 := by omega
  rcases hp with rfl | rfl
  · have hq : q = 0 ∨ q = 1 ∨ q = 2 ∨ q = 3 := by omega
    rcases hq with rfl | rfl | rfl | rfl
    · exact blocks_0_0
    · exact blocks_0_1
    · exact blocks_0_2
    · exact blocks_0_3
  · have hq : q = 0 ∨ q = 1 ∨ q = 2 ∨ q = 3 := by omega
    rcases hq with rfl | rfl | rfl | rfl
    · exact blocks_1_0
    · exact blocks_1_1
    · exact blocks_1_2
    · exact blocks_1_3
theorem blocks_any (a b c : Int) (w : World) : Calls Try.prog 5 #[.int .i64 a, .int .i64 b, .int .i64 c] w fun e w' => e = .returned (.bool true) ∧ Go.RowKit.Below w.heap.size w w' :=
  law3 (by decide) (m0 := 1) (m1 := 3) (m2 := 3) (by decide) (by decide) (by decide) (fun p q r hp hq hr => allN_ok _ 4 (blocks_all p q hp hq) r (by omega)) a b c w
end Go.Proofs.Ytebgepekllelaaa
