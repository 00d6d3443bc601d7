/-
  The ten laws of chapter 18: what they share: the first answer ('awake'), the program's facts.
-/
import Derived.Test.YtebgepekllelaaaVx25
import Derived.Test.YtebgepekllelaaaProg
import Derived.KernelRfl
namespace Go.Proofs.Ytebgepekllelaaa
open Go Vx

set_option maxRecDepth 100000 in
theorem awake_run : lawB Try.prog noD 20000 13 [] = true := by decide +kernel
theorem mixed : Try.prog.follows .mixedOrders = true := by kernel_rfl
theorem noNames : NoNG Try.prog := noNG_ok (by kernel_rfl)
noncomputable def vars (n : Nat) : List AV := Nat.rec (motive := fun _ => Nat → List AV) (fun _ => []) (fun _ ih i => .int .i64 (.var i) :: ih (Nat.succ i)) n 0
/-- Three whole numbers that are handed in. -/
noncomputable def rho3 (a b c : Int) : Nat → Int := fun i => match i with
  | 0 => a
  | 1 => b
  | _ => c
theorem vars3 (a b c : Int) : VRs (fun _ => none) (rho3 a b c) (vars 3) [.int .i64 a, .int .i64 b, .int .i64 c] :=
  .cons (.int rfl) (.cons (.int rfl) (.cons (.int rfl) .nil))
/-- A law of three numbers, of which each counts by some bits alone. -/
theorem law3 {f : FuncId} (hf : f ≠ 0) {n m0 m1 m2 : Nat} (h0 : m0 < 2 ^ 63) (h1 : m1 < 2 ^ 63) (h2 : m2 < 2 ^ 63)
    (h : ∀ p q r, p ≤ m0 → q ≤ m1 → r ≤ m2 → lawB Try.prog (lawD 13 [.and 0 m0 p, .and 1 m1 q, .and 2 m2 r] [[]]) n f (vars 3) = true) (a b c : Int) (w : World) :
    Calls Try.prog f #[.int .i64 a, .int .i64 b, .int .i64 c] w fun e w' => e = .returned (.bool true) ∧ Go.RowKit.Below w.heap.size w w' := by
  obtain ⟨p, hp, ep⟩ := mask_and a m0 h0
  obtain ⟨q, hq, eq⟩ := mask_and b m1 h1
  obtain ⟨r, hr, er⟩ := mask_and c m2 h2
  have hl : ∀ x ∈ [MK.and 0 m0 p, MK.and 1 m1 q, MK.and 2 m2 r], x.OK (rho3 a b c) := fun x hx => by
    simp only [List.mem_cons, List.not_mem_nil, or_false] at hx
    rcases hx with rfl | rfl | rfl
    · exact ep
    · exact eq
    · exact er
  exact law_calls mixed noNames (lawD_ok mixed noNames awake_run hl ⟨[], List.mem_cons_self, fun x hx => by cases hx⟩) hf (h p q r hp hq hr) (vars3 a b c) w
end Go.Proofs.Ytebgepekllelaaa
