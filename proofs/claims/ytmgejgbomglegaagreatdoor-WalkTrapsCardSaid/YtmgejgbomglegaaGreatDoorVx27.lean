/-
  A law that is run, by the quick machine.
-/
import Derived.Test.YtmgejgbomglegaaGreatDoorVx26
namespace Vx
open Go Go.RowKit
noncomputable def lawF (P : Program) (D : Dec) (n : Nat) (f : FuncId) (args : List AV) : Bool :=
  match enterA P f args false with
  | some g => isT f (runF P D n ⟨g, [], emptyH⟩)
  | none => false
theorem lawF_inv {P : Program} {D : Dec} {n : Nat} {f : FuncId} {args : List AV} (h : lawF P D n f args = true) : ∃ g H', enterA P f args false = some g ∧ runF P D n ⟨g, [], emptyH⟩ = some (f, .ret (.bool true), H') := by
  unfold lawF at h
  split at h
  · rename_i g hg
    unfold isT at h
    split at h
    · rename_i g' H' hr
      have e := Nat.eq_of_beq_eq_true h
      subst e
      exact ⟨g, H', hg, hr⟩
    · cases h
  · cases h
theorem lawF_calls {P : Program} {ρ : Nat → Int} (hmix : P.follows .mixedOrders = true) (hN : NoNG P) {D : Dec} (hD : D.OK P ρ) {n : Nat} {f : FuncId} (hf : f ≠ 0) {args : List AV} (h : lawF P D n f args = true) {args' : Array Value} (ha : VRs (fun _ => none) ρ args args'.toList) (w : World) :
    Calls P f args' w fun e w' => e = .returned (.bool true) ∧ Below w.heap.size w w' := by
  obtain ⟨g, H', hg, hr⟩ := lawF_inv h
  refine calls_of_rec (runF_ok hmix hD hN n) ha hg hf hr w fun μ v' w' hv _ hF => ?_
  cases hv
  exact ⟨rfl, hF.os, hF.tape, hF.output, hF.size, fun k hk => hF.block k hk hk⟩
end Vx
