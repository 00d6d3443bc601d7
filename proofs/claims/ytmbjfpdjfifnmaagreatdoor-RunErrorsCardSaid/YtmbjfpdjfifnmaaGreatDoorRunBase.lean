/-
  The laws of chapter 26 and of the whole: the first answers ('awake'), a law that is run.
-/
import Derived.Test.YtmbjfpdjfifnmaaGreatDoorRunPre
namespace Go.Proofs.YtmbjfpdjfifnmaaGreatDoor
open Go Vx
set_option maxRecDepth 100000 in
theorem awake_run : lawZ Tryz.prog (extD vext) 200000 11 [] = true := by decide +kernel
set_option maxRecDepth 100000 in
theorem awake_top : lawZ Tryz.prog (extD vext) 200000 21 [] = true := by decide +kernel
noncomputable def rhoL (l : List Int) : Nat → Int := fun i => l.getD i 0
noncomputable def runM (aw : FuncId) (iv : List IV) (l : List MK) (f : FuncId) (args : List AV) : Bool := lawZ Tryz.prog (wD vext aw iv l) 2000000 f args
theorem runM_calls {aw : FuncId} {n : Nat} (haw : lawZ Tryz.prog (extD vext) n aw [] = true) {ρ : Nat → Int} {iv : List IV} (hi : ∀ c ∈ iv, c.OK ρ) {l : List MK} (hl : ∀ c ∈ l, c.OK ρ) {f : FuncId} (hf : f ≠ 0) {args : List AV} (h : runM aw iv l f args = true) {args' : Array Value} (ha : VRs (fun _ => none) ρ args args'.toList) (w : World) :
    Calls Tryz.prog f args' w fun e w' => e = .returned (.bool true) ∧ Go.RowKit.Below w.heap.size w w' :=
  lawY_calls mixed noNames (wZ_ok mixed noNames vext_ok haw hi hl) hf ((lawZ_eq _ _ _ _ _).symm.trans h) ha w
theorem all_nil {ρ : Nat → Int} : ∀ c ∈ ([] : List MK), c.OK ρ := fun c hc => by cases hc
theorem all_cons {ρ : Nat → Int} {c : MK} {l : List MK} (h : c.OK ρ) (hs : ∀ c ∈ l, c.OK ρ) : ∀ x ∈ c :: l, x.OK ρ := fun x hx => by
  rcases List.mem_cons.1 hx with rfl | hx
  · exact h
  · exact hs x hx
theorem ivs_nil {ρ : Nat → Int} : ∀ c ∈ ([] : List IV), c.OK ρ := fun c hc => by cases hc
theorem ivs_cons {ρ : Nat → Int} {c : IV} {l : List IV} (h : c.OK ρ) (hs : ∀ c ∈ l, c.OK ρ) : ∀ x ∈ c :: l, x.OK ρ := fun x hx => by
  rcases List.mem_cons.1 hx with rfl | hx
  · exact h
  · exact hs x hx
end Go.Proofs.YtmbjfpdjfifnmaaGreatDoor
