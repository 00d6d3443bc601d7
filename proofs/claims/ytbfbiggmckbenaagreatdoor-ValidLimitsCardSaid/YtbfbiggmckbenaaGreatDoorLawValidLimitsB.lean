/-
  ValidLimits: sizes by classes.
-/
import Derived.Test.YtbfbiggmckbenaaGreatDoorValBase
import Derived.Test.YtbfbiggmckbenaaGreatDoorVxI
namespace Go.Proofs.YtbfbiggmckbenaaGreatDoor
open Go Vx

noncomputable def lim (a a2 b b2 : Nat) (le t : Bool) : Bool := lawX Tryz.prog (ivD vext 8 [⟨0, 131071, a, a2⟩, ⟨1, 131071, b, b2⟩] ⟨0, 1, 131071, le⟩) 200000 3 [.int .i64 (.var 0), .int .i64 (.var 1), .bool t]
theorem lim_calls {a b : Int} {p q : Nat} (hp : binVal .and .i64 a (131071 : Nat) = (p : Int)) (hq : binVal .and .i64 b (131071 : Nat) = (q : Int)) {l h l' h' : Nat} {le t : Bool} (hl : lim l h l' h' le t = true)
    (h1 : l ≤ p) (h2 : p ≤ h) (h3 : l' ≤ q) (h4 : q ≤ h') (h5 : decide (p ≤ q) = le) (w : World) :
    Calls Tryz.prog 3 #[.int .i64 a, .int .i64 b, .bool t] w fun e w' => e = .returned (.bool true) ∧ Go.RowKit.Below w.heap.size w w' := by
  have ok1 : (⟨0, 131071, l, h⟩ : IV).OK (rho3 a b 0) := by
    show (l : Int) ≤ binVal .and .i64 a (131071 : Nat) ∧ binVal .and .i64 a (131071 : Nat) ≤ (h : Int)
    rw [hp]; exact ⟨Int.ofNat_le.2 h1, Int.ofNat_le.2 h2⟩
  have ok2 : (⟨1, 131071, l', h'⟩ : IV).OK (rho3 a b 0) := by
    show (l' : Int) ≤ binVal .and .i64 b (131071 : Nat) ∧ binVal .and .i64 b (131071 : Nat) ≤ (h' : Int)
    rw [hq]; exact ⟨Int.ofNat_le.2 h3, Int.ofNat_le.2 h4⟩
  have ok3 : (⟨0, 1, 131071, le⟩ : RL).OK (rho3 a b 0) := by
    show decide (binVal .and .i64 a (131071 : Nat) ≤ binVal .and .i64 b (131071 : Nat)) = le
    rw [hp, hq, ← h5]
    simp only [Int.ofNat_le]
  refine lawF_calls mixed noNames (ivD_ok (ρ := rho3 a b 0) mixed noNames vext_ok awake_run (fun c hc => ?_) ok3) (by decide) ((lawX_eq _ _ _ _ _).symm.trans hl) (.cons (.int rfl) (.cons (.int rfl) (.cons .bool .nil))) w
  rcases List.mem_cons.1 hc with rfl | hc
  · exact ok1
  · rcases List.mem_cons.1 hc with rfl | hc
    · exact ok2
    · cases hc
end Go.Proofs.YtbfbiggmckbenaaGreatDoor
